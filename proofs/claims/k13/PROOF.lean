import PyProof.Rows.All
import Wide.All
import OpenK.AllK
import Wide.FinOn
import HandS.ForMost
import HandS.TupAny
import HandS.ForExc
import HandS.SetKeys
import HandS.DictTup
import PyProof.DictMoreH
import KE.KDictDisplayH
import HandS.Conv
import HandS.ExcCtx
import HandS.TupMul
import HandS.Deep
import HandS.Wide
import HandS.StrMore
import PyProof.NeData
import HandS.DictEq
import HandS.TupLen
import KE.KDictCopyH
import HandS.IsInst
import HandS.Style
import HandS.CallSlots
import HandS.RevRange
import HandS.More
import HandS.Small
import HandS.DictSubView
import HandS.TupLe
import HandS.SortOrd
import HandS.SortRule
import PyProof.Rows.SortKeyStr
import HandS.Iter
import KE.KUnpackStar
import HandS.MakeKwOnly
import HandS.ExcIs
import HandS.HotCalls
import HandS.Defaults
import HandS.Head0
import HandS.Head1
import HandS.Head2
import HandS.HeadEnd
import HandS.HeadHook1
import HandS.HeadHook2
import KE.KStateDown
import PySem.Challenge.RW_laidtrees_k13_house_refused
set_option Elab.async false
set_option linter.all false
set_option maxRecDepth 100000
set_option maxHeartbeats 0
namespace Lt
open PySem (Str)

/-! ### data -/
/-- Python's data: tuples are values; vl, vd: lists and dicts that nobody changes any more; loc: a place in the store -/
inductive D where
  | non
  | bl (b : Bool)
  | int (i : Int)
  | str (s : Str)
  | fn (f : Str)
  | tup (xs : List D)
  | vl (xs : List D)
  | vd (kvs : List (D × D))
  | loc (l : Nat)
  deriving Inhabited

mutual
/-- equality, sign by sign -/
def D.same : D → D → Bool
  | .non, .non => true
  | .bl a, .bl b => a == b
  | .int a, .int b => a == b
  | .str a, .str b => a == b
  | .fn a, .fn b => a == b
  | .tup a, .tup b => D.sames a b
  | .vl a, .vl b => D.sames a b
  | .vd a, .vd b => D.sameK a b
  | .loc a, .loc b => a == b
  | _, _ => false
def D.sames : List D → List D → Bool
  | [], [] => true
  | x :: xs, y :: ys => D.same x y && D.sames xs ys
  | _, _ => false
def D.sameK : List (D × D) → List (D × D) → Bool
  | [], [] => true
  | (x, u) :: xs, (y, v) :: ys => (D.same x y && D.same u v) && D.sameK xs ys
  | _, _ => false
end

mutual
theorem D.same_iff : ∀ (a b : D), D.same a b = true ↔ a = b
  | .non, b => by cases b <;> simp [D.same]
  | .bl a, b => by cases b <;> simp [D.same]
  | .int a, b => by cases b <;> simp [D.same]
  | .str a, b => by cases b <;> simp [D.same]
  | .fn a, b => by cases b <;> simp [D.same]
  | .loc a, b => by cases b <;> simp [D.same]
  | .tup a, b => by
    cases b <;> simp only [D.same, Bool.false_eq_true, false_iff, D.tup.injEq, reduceCtorEq, not_false_eq_true]
    exact D.sames_iff _ _
  | .vl a, b => by
    cases b <;> simp only [D.same, Bool.false_eq_true, false_iff, D.vl.injEq, reduceCtorEq, not_false_eq_true]
    exact D.sames_iff _ _
  | .vd a, b => by
    cases b <;> simp only [D.same, Bool.false_eq_true, false_iff, D.vd.injEq, reduceCtorEq, not_false_eq_true]
    exact D.sameK_iff _ _
theorem D.sames_iff : ∀ (a b : List D), D.sames a b = true ↔ a = b
  | [], [] => by simp [D.sames]
  | [], _ :: _ => by simp [D.sames]
  | _ :: _, [] => by simp [D.sames]
  | x :: xs, y :: ys => by
    simp only [D.sames, Bool.and_eq_true, List.cons.injEq]
    rw [D.same_iff x y, D.sames_iff xs ys]
theorem D.sameK_iff : ∀ (a b : List (D × D)), D.sameK a b = true ↔ a = b
  | [], [] => by simp [D.sameK]
  | [], _ :: _ => by simp [D.sameK]
  | _ :: _, [] => by simp [D.sameK]
  | (x, u) :: xs, (y, v) :: ys => by
    simp only [D.sameK, Bool.and_eq_true, List.cons.injEq, Prod.mk.injEq]
    rw [D.same_iff x y, D.same_iff u v, D.sameK_iff xs ys]
end
instance : DecidableEq D := fun a b => if h : D.same a b = true then isTrue ((D.same_iff a b).mp h) else isFalse fun e => h ((D.same_iff a b).mpr e)

mutual
/-- scalars, tuples and lists of such, at most so deep -/
def flat : Nat → D → Bool
  | 0, _ => false
  | _ + 1, .loc _ => false
  | _ + 1, .fn _ => false
  | _ + 1, .vd _ => false
  | n + 1, .tup xs => flats n xs
  | n + 1, .vl xs => flats n xs
  | _ + 1, _ => true
def flats : Nat → List D → Bool
  | _, [] => true
  | n, x :: xs => flat n x && flats n xs
end
mutual
/-- no place of the store within -/
def noLoc : D → Bool
  | .loc _ => false
  | .tup xs => noLocs xs
  | .vl xs => noLocs xs
  | .vd kvs => noLocK kvs
  | _ => true
def noLocs : List D → Bool
  | [] => true
  | x :: xs => noLoc x && noLocs xs
def noLocK : List (D × D) → Bool
  | [] => true
  | (_, v) :: r => noLoc v && noLocK r
end

def b2i (b : Bool) : Int := if b then 1 else 0

/-- d[k] by the entries -/
def dget (kvs : List (D × D)) (k : D) : Option D := (kvs.find? fun p => decide (p.1 = k)).map (·.2)
def dhas (kvs : List (D × D)) (k : D) : Bool := (dget kvs k).isSome
def dput (kvs : List (D × D)) (k v : D) : List (D × D) := if dhas kvs k then kvs.map fun p => if p.1 = k then (p.1, v) else p else kvs ++ [(k, v)]
def ddel (kvs : List (D × D)) (k : D) : List (D × D) := kvs.filter fun p => decide (p.1 ≠ k)

mutual
/-- == of data without places -/
def eqv : D → D → Bool
  | .non, .non => true
  | .bl a, .bl b => a == b
  | .bl a, .int b => b2i a == b
  | .int a, .bl b => a == b2i b
  | .int a, .int b => a == b
  | .str a, .str b => a == b
  | .tup a, .tup b => eqvs a b
  | .vl a, .vl b => eqvs a b
  | .vd a, .vd b => a.length == b.length && eqvK a b
  | _, _ => false
def eqvs : List D → List D → Bool
  | [], [] => true
  | x :: xs, y :: ys => eqv x y && eqvs xs ys
  | _, _ => false
def eqvK : List (D × D) → List (D × D) → Bool
  | [], _ => true
  | (k, v) :: r, b => (match dget b k with
    | some u => eqv v u
    | none => false) && eqvK r b
end

/-! ### order -/
def strLt (a b : Str) : Bool := decide (a.cps.toList < b.cps.toList)
/-- < of tuples of texts -/
def ltStrs : List D → List D → Bool
  | [], _ :: _ => true
  | .str a :: xs, .str b :: ys => strLt a b || (a == b && ltStrs xs ys)
  | _, _ => false
def ltD : D → D → Bool
  | .int a, .int b => decide (a < b)
  | .str a, .str b => strLt a b
  | .tup a, .tup b => ltStrs a b
  | _, _ => false
def insD (x : D) : List D → List D
  | [] => [x]
  | y :: ys => if ltD y x then y :: insD x ys else x :: y :: ys
/-- sorted -/
def sortD : List D → List D
  | [] => []
  | x :: xs => insD x (sortD xs)
def isInt : D → Bool
  | .int _ => true
  | _ => false
def isStr : D → Bool
  | .str _ => true
  | _ => false
def isStrs : D → Bool
  | .tup xs => xs.all isStr
  | _ => false
/-- what sorted takes: texts alone, tuples of texts alone -/
def sortable (xs : List D) : Bool := xs.all isStr || xs.all isStrs

/-! ### the store -/
inductive Ob where
  | lst (xs : List D)
  | dct (kvs : List (D × D))
  /-- a dict while a loop walks it -/
  | fdct (kvs : List (D × D))
  | ins (c : Str) (fs : List (Str × D))
  deriving Inhabited
abbrev Sto := List Ob
abbrev Slots := List (Option D)

def Ob.same : Ob → Ob → Bool
  | .lst a, .lst b => D.sames a b
  | .dct a, .dct b => D.sameK a b
  | .fdct a, .fdct b => D.sameK a b
  | .ins c f, .ins d g => c == d && (f.map (·.1) == g.map (·.1) && D.sames (f.map (·.2)) (g.map (·.2)))
  | _, _ => false
def Ob.noLoc : Ob → Bool
  | .lst xs => noLocs xs
  | .dct kvs => noLocK kvs
  | .fdct kvs => noLocK kvs
  | .ins _ _ => false
def getF (fs : List (Str × D)) (f : Str) : Option D := (fs.find? fun p => decide (p.1 = f)).map (·.2)
def putF (fs : List (Str × D)) (f : Str) (d : D) : List (Str × D) :=
  match fs with
  | [] => [(f, d)]
  | (g, u) :: r => if f = g then (g, d) :: r else (g, u) :: putF r f d

def lstOf (S : Sto) : D → Option (List D)
  | .vl xs => some xs
  | .loc l => match S[l]? with
    | some (.lst xs) => some xs
    | _ => none
  | _ => none
def dctOf (S : Sto) : D → Option (List (D × D))
  | .vd kvs => some kvs
  | .loc l => match S[l]? with
    | some (.dct kvs) => some kvs
    | some (.fdct kvs) => some kvs
    | _ => none
  | _ => none
inductive Vw where
  | lst (xs : List D)
  | dct (kvs : List (D × D))
  | no
/-- a list or a dict, as it is now -/
def viewOf (S : Sto) (d : D) : Vw := match lstOf S d with
  | some xs => .lst xs
  | none => match dctOf S d with
    | some kvs => .dct kvs
    | none => .no
/-- the value that a list or dict holds now -/
def topOf (S : Sto) : D → D
  | .loc l => match S[l]? with
    | some (.lst xs) => .vl xs
    | some (.dct kvs) => .vd kvs
    | some (.fdct kvs) => .vd kvs
    | _ => .loc l
  | d => d

/-! ### the language -/
inductive BOp where
  | add | sub | mul | fdiv | mod | pow
inductive COp where
  | eq | ne | lt | le | gt | ge | isin | nin | is | isnt
inductive Ity where
  | int | str | bool | tuple | list | dict
  deriving DecidableEq
inductive Blt where
  | len | all | any | sorted | sortset | list | dict | tuple | max | sum | range | rrange | reversed | int | str
inductive Bmt where
  | get | setdefault | pop | popl | values | append | extend | count | index | partition | split | join

mutual
inductive E where
  | var (i : Nat)
  | cst (d : D)
  | glb (x : Str)
  | tup (es : Es)
  | lst (m : Bool) (es : Es)
  /-- a dict's display: key, value, key, value .. -/
  | dct (m : Bool) (kvs : Es)
  | bin (m : Bool) (op : BOp) (a b : E)
  | neg (a : E)
  | not (a : E)
  | and (a b : E)
  | or (a b : E)
  | ite (c a b : E)
  | cmp (op : COp) (a b : E)
  | chn (o1 o2 : COp) (a b c : E)
  | idx (a b : E)
  | slc (a : E) (lo hi : Es)
  | rev (a : E)
  | fld (a : E) (f : Str)
  | call (fz : Bool) (f : Str) (es : Es)
  | calv (fz : Bool) (f : E) (es : Es)
  | meth (fz : Bool) (o : E) (m : Str) (es : Es) (kn : List Str) (ks : Es)
  | new (c : Str) (es : Es) (kn : List Str) (ks : Es)
  | blt (m : Bool) (b : Blt) (a : E)
  | bm (b : Bmt) (o : E) (es : Es)
  | isi (a : E) (t : Ity)
  /-- len of an instance -/
  | leni (a : E)
  | lc (m : Bool) (ts : List Nat) (it : E) (cond : Es) (elt : E)
  | enum (a : E)
  /-- list(a.values()) -/
  | vals (m : Bool) (a : E)
  /-- list(range(a)) -/
  | lrng (m : Bool) (a : E)
inductive Es where
  | nil
  | cons (e : E) (r : Es)
end

def Es.len : Es → Nat
  | .nil => 0
  | .cons _ r => r.len + 1
inductive Tg where
  | name (i : Nat)
  | names (is : List Nat)
  /-- a, *b -/
  | star (i j : Nat)
  | sub (o i : E)
  | fld (o : E) (f : Str)
mutual
inductive C where
  | expr (e : E)
  | asg (t : Tg) (e : E)
  | aug (t : Tg) (e : E)
  | ret (e : E)
  | ifs (c : E) (a b : Cs)
  | fors (ts : List Nat) (it : E) (b : Cs)
  | whl (c : E) (b : Cs)
  | raise (x : Str)
  | tryw (b : Cs)
  /-- any statement: it is never reached -/
  | any
  | cont
  | pass
inductive Cs where
  | nil
  | cons (c : C) (r : Cs)
end

structure Fun where
  /-- parameters -/
  np : Nat
  /-- slots -/
  ns : Nat
  /-- what fills the last parameters -/
  dfl : List D
  body : Cs
  /-- the parameters' names -/
  pn : List Str
  /-- the last parameter's name, if it wants a name -/
  kwo : Option Str
structure Prog where
  fn : Str → Option Fun
  /-- a class's methods -/
  meth : Str → Str → Option Fun
  glb : Str → Option D
  /-- the exceptions, by their number -/
  exc : List Str
  /-- a class's fields -/
  flds : Str → List Str
  /-- the law says which refusal it is -/
  whi : Bool

/-- the refusals, as the laws number them -/
def wa1 : List Str := [Str.ofString "NoPath", Str.ofString "NoText", Str.ofString "NoTree", Str.ofString "NoLayer"]
def wa2 : List Str := [Str.ofString "NoStack", Str.ofString "NoHandle", Str.ofString "NoPower", Str.ofString "Root"]
def wa3 : List Str := [Str.ofString "NotThere", Str.ofString "NoDrawer", Str.ofString "IsDrawer", Str.ofString "Taken"]
def wa4 : List Str := [Str.ofString "NotEmpty", Str.ofString "Within", Str.ofString "TooLong", Str.ofString "Full"]
def wa5 : Str := Str.ofString "Dark"
def whichN : List Str := wa1 ++ wa2 ++ wa3 ++ wa4 ++ [wa5]
def refD (x : Str) : D := .tup [.str (Str.ofString "refused"), .int (whichN.idxOf x : Nat)]
/-! ### the evaluator -/
inductive R (α : Type) where
  | ok (a : α) (S : Sto)
  | exc (x : Str) (S : Sto)
  | bad
def R.bind {α β : Type} : R α → (α → Sto → R β) → R β
  | .ok a S, f => f a S
  | .exc x S, _ => .exc x S
  | .bad, _ => .bad
inductive O where
  | nx (σ : Slots) (S : Sto)
  | rt (d : D) (S : Sto)
  | ct (σ : Slots) (S : Sto)
  | exc (x : Str) (S : Sto)
  | bad

def mulOk (i j : Int) : Bool := decide (i.natAbs < 2 ^ 64) || decide (j.natAbs < 2 ^ 64) || (decide (i.natAbs < 2 ^ 1000) && decide (j.natAbs < 2 ^ 1000))
def line : Nat := 16777216
def repL (xs : List D) (n : Nat) : List D := (List.replicate n xs).flatten
/-- a new list: in the store, or as a value -/
def mkL (m : Bool) (xs : List D) (S : Sto) : R D := if m then .ok (.loc S.length) (S ++ [.lst xs]) else .ok (.vl xs) S
def mkD (m : Bool) (kvs : List (D × D)) (S : Sto) : R D := if m then .ok (.loc S.length) (S ++ [.dct kvs]) else .ok (.vd kvs) S
def addD (m : Bool) (S : Sto) (a b : D) : R D := match a, b with
  | .int i, .int j => .ok (.int (i + j)) S
  | .str x, .str y => if x.length + y.length ≤ 4096 then .ok (.str (x ++ y)) S else .bad
  | .tup a, .tup b => if a.length + b.length ≤ 4096 then .ok (.tup (a ++ b)) S else .bad
  | a, b => match lstOf S a, lstOf S b with
    | some xs, some ys => if xs.length + ys.length ≤ 4096 then mkL m (xs ++ ys) S else .bad
    | _, _ => .bad
def mulD (m : Bool) (S : Sto) (a b : D) : R D := match a, b with
  | .int i, .int j => if mulOk i j then .ok (.int (i * j)) S else .bad
  | .str x, .int j => if -64 ≤ j ∧ j ≤ 64 ∧ x.length ≤ 64 then .ok (.str (PySem.Txt.mul x j)) S else .bad
  | .tup x, .int j => if 2 ≤ j ∧ j ≤ 64 ∧ x.length ≤ 64 ∧ x ≠ [] then .ok (.tup (repL x j.toNat)) S else .bad
  | a, .int j => match lstOf S a with
    | some xs => if -64 ≤ j ∧ j ≤ 64 ∧ xs.length ≤ 64 then mkL m (repL xs j.toNat) S else .bad
    | none => .bad
  | _, _ => .bad
def intop (S : Sto) (a b : D) (c : Int → Int → Bool) (f : Int → Int → Int) : R D := match a, b with
  | .int i, .int j => if c i j then .ok (.int (f i j)) S else .bad
  | _, _ => .bad
def binop (m : Bool) (S : Sto) (op : BOp) (a b : D) : R D := match op with
  | .add => addD m S a b
  | .sub => intop S a b (fun _ _ => true) fun i j => i - j
  | .mul => mulD m S a b
  | .fdiv => intop S a b (fun _ j => decide (0 < j) && decide (j < 1073741824)) fun i j => i / j
  | .mod => intop S a b (fun _ j => decide (0 < j)) fun i j => i % j
  | .pow => intop S a b (fun i j => decide (0 ≤ j) && (decide (j ≤ 1000) && decide (i.natAbs < 2 ^ 64))) fun i j => i ^ j.toNat
def isOne : D → D → Option Bool
  | a, .non => some (match a with
    | .non => true
    | _ => false)
  | a, .bl b => some (match a with
    | .bl c => b == c
    | _ => false)
  | _, _ => none
def occurs (x y : Str) : Bool := !(PySem.Builtin.Str.occurrences y x 0 y.length 1).isEmpty
def memD (x : D) (ys : List D) : Bool := ys.any fun y => eqv y x
/-- a key that a dict of ours takes -/
def keyK : D → Bool
  | .int _ => true
  | .str _ => true
  | _ => false
def keyT : D → Bool
  | .tup xs => xs.all keyK
  | _ => false
/-- the module's own tuples of one text are no keys here -/
def kOk : D → Bool
  | .tup [.str x] => x != Str.ofString "drawer" && x != Str.ofString "gone"
  | _ => true
/-- keys of one kind: tuples of ints and texts; ints and texts -/
def keysOk (kvs : List (D × D)) (k : D) : Bool := kOk k && ((keyT k && kvs.all fun p => keyT p.1) || (keyK k && kvs.all fun p => keyK p.1))
/-- a dict whose keys are tuples, whose values are data -/
def dfl (kvs : List (D × D)) : Bool := kvs.all fun p => keyT p.1 && flat 9 p.2
def isDf : D → Bool
  | .vd kvs => dfl kvs
  | _ => false
def eqT (x y : D) : Option Bool := if flat 10 x && flat 10 y then some (eqv x y) else match x, y with
  | .vd ks, .vd ls => if dfl ks && dfl ls then some (eqv x y) else none
  | .vl xs, .vl ys => if xs.length = ys.length then none else some false
  | _, _ => none
def eqD (S : Sto) (a b : D) : Option Bool := eqT (topOf S a) (topOf S b)
def cmpI (a b : D) (c : Int → Int → Bool) : Option Bool := match a, b with
  | .int i, .int j => some (c i j)
  | _, _ => none
/-- keys of both kinds in one dict -/
def mixOk (kvs : List (D × D)) (k : D) : Bool := kOk k && ((keyT k || keyK k) && kvs.all fun p => keyT p.1 || keyK p.1)
def mixd (kvs : List (D × D)) : Bool := !(kvs.all fun p => keyT p.1) && !(kvs.all fun p => keyK p.1)
def inO (S : Sto) (a b : D) : Option Bool := match viewOf S b with
  | .lst ys => if flat 9 a && flats 9 ys then some (memD a ys) else none
  | .dct kvs => if keysOk kvs a then some (dhas kvs a) else none
  | .no => none
def inT (a : D) (ys : List D) : Option Bool := if flat 9 a && flats 9 ys then some (memD a ys) else none
def inS (a : D) (y : Str) : Option Bool := match a with
  | .str x => some (occurs x y)
  | _ => none
def inD (S : Sto) (a b : D) : Option Bool := match b with
  | .str y => inS a y
  | .tup ys => inT a ys
  | b => inO S a b
def cmpop (S : Sto) (op : COp) (a b : D) : Option Bool := match op with
  | .eq => eqD S a b
  | .ne => (eqD S a b).map not
  | .lt => cmpI a b fun i j => decide (i < j)
  | .le => cmpI a b fun i j => decide (i ≤ j)
  | .gt => cmpI a b fun i j => decide (j < i)
  | .ge => cmpI a b fun i j => decide (j ≤ i)
  | .is => isOne a b
  | .isnt => (isOne a b).map not
  | .isin => inD S a b
  | .nin => (inD S a b).map not
abbrev atI (n : Nat) (i : Int) : Option Nat := L2.ixN n i
/-- a[b] -/
def idxT (S : Sto) (xs : List D) (k : D) : R D := match k with
  | .int i => (match atI xs.length i with
    | some j => .ok (xs.getD j .non) S
    | none => .bad)
  | _ => .bad
def idxS (S : Sto) (x : Str) (k : D) : R D := match k with
  | .int i => (match atI x.length i with
    | some j => if x.length ≤ 100000 then .ok (.str ⟨#[x.cps.getD j 0]⟩) S else .bad
    | none => .bad)
  | _ => .bad
def idxD (S : Sto) (kvs : List (D × D)) (k : D) : R D := if keysOk kvs k then (match dget kvs k with
    | some v => .ok v S
    | none => .bad) else .bad
def idxO (S : Sto) (a k : D) : R D := match viewOf S a with
  | .lst xs => idxT S xs k
  | .dct kvs => idxD S kvs k
  | .no => .bad
def index (S : Sto) (a k : D) : R D := match a with
  | .tup xs => idxT S xs k
  | .str x => idxS S x k
  | a => idxO S a k
/-- a slice's bound: there is none, or a whole number -/
def cutO : List D → Option (Option Int)
  | [] => some none
  | [.int i] => some (some i)
  | _ => none
def cutL {α : Type} (xs : List α) (lo hi : Option Int) : List α := (xs.drop (HT.sIx xs.length 0 lo)).take (HT.sIx xs.length xs.length hi - HT.sIx xs.length 0 lo)
def slcO (S : Sto) (a : D) (i j : Option Int) : R D := match lstOf S a with
  | some xs => .ok (.vl (cutL xs i j)) S
  | none => .bad
def sliceI (S : Sto) (a : D) (i j : Option Int) : R D := match a with
  | .tup xs => .ok (.tup (cutL xs i j)) S
  | .str x => if x.length ≤ 100000 then .ok (.str (L2.cutS x i j)) S else .bad
  | a => slcO S a i j
/-- isinstance of one built-in class -/
def isA (S : Sto) (t : Ity) (d : D) : Option Bool := match d with
  | .non => some false
  | .bl _ => some (decide (t = .bool ∨ t = .int))
  | .int _ => some (decide (t = .int))
  | .str _ => some (decide (t = .str))
  | .tup _ => some (decide (t = .tuple))
  | .fn _ => none
  | d => match viewOf S d with
    | .lst _ => some (decide (t = .list))
    | .dct _ => some (decide (t = .dict))
    | .no => none
def allB : List D → Option Bool
  | [] => some true
  | .bl b :: r => match allB r with
    | some c => some (b && c)
    | none => none
  | _ => none
def anyB : List D → Option Bool
  | [] => some false
  | .bl b :: r => match anyB r with
    | some c => some (b || c)
    | none => none
  | _ => none
def intsOf : List D → Option (List Int)
  | [] => some []
  | .int i :: r => (intsOf r).map (i :: ·)
  | _ => none
def isVd : D → Bool
  | .vd _ => true
  | _ => false
/-- the items that are walked; a dict's keys where its expression may be asked again (a value: where it is a name) -/
def itemsOf (pv pu : Bool) (S : Sto) (d : D) : Option (List D) := match d with
  | .tup xs => some xs
  | .str x => some (x.cps.toList.map fun c => .str ⟨#[c]⟩)
  | d => match viewOf S d with
    | .lst xs => some xs
    | .dct kvs => if (if isVd d then pv else pu) then some (kvs.map (·.1)) else none
    | .no => none
def E.isVar : E → Bool
  | .var _ => true
  | _ => false
/-- an expression that changes nothing and asks of no dict -/
def E.pureIt : E → Bool
  | .var _ => true
  | _ => false
def enumD (i : Nat) : List D → List D
  | [] => []
  | x :: xs => .tup [.int (i : Nat), x] :: enumD (i + 1) xs
def maxI (i : Int) : List Int → Int
  | [] => i
  | j :: r => maxI (if j > i then j else i) r
def dedup : List D → List D
  | [] => []
  | x :: xs => x :: (dedup xs).filter fun y => decide (y ≠ x)
def rangeD (n : Nat) : List D := (List.range n).map fun (i : Nat) => D.int (i : Int)
def lenO (S : Sto) (d : D) : R D := match viewOf S d with
  | .lst xs => .ok (.int xs.length) S
  | .dct kvs => .ok (.int kvs.length) S
  | .no => .bad
def lenD (S : Sto) (d : D) : R D := match d with
  | .tup xs => .ok (.int xs.length) S
  | .str x => if x.length ≤ 100000 then .ok (.int x.length) S else .bad
  | d => lenO S d
def overB (S : Sto) (d : D) (f : List D → Option Bool) : R D := match lstOf S d with
  | some xs => (match f xs with
    | some b => .ok (.bl b) S
    | none => .bad)
  | none => .bad
def overI (S : Sto) (d : D) (f : List Int → Option Int) : R D := match lstOf S d with
  | some xs => (match intsOf xs with
    | some is => (match f is with
      | some i => .ok (.int i) S
      | none => .bad)
    | none => .bad)
  | none => .bad
def maxL : List Int → Option Int
  | [] => none
  | i :: r => some (maxI i r)
def sortedD (m : Bool) (S : Sto) (d : D) : R D := match viewOf S d with
  | .lst xs => if sortable xs then mkL m (sortD xs) S else .bad
  | .dct kvs => if sortable (kvs.map (·.1)) && kvs.all fun p => keyT p.1 then mkL m (sortD (kvs.map (·.1))) S else .bad
  | .no => .bad
def listO (m : Bool) (S : Sto) (d : D) : R D := match viewOf S d with
  | .lst xs => mkL m xs S
  | .dct kvs => if kvs.all fun p => keyT p.1 then mkL m (kvs.map (·.1)) S else .bad
  | .no => .bad
def listD (m : Bool) (S : Sto) (d : D) : R D := match d with
  | .tup xs => mkL m xs S
  | d => listO m S d
def builtin (m : Bool) (S : Sto) (b : Blt) (d : D) : R D := match b with
  | .len => lenD S d
  | .all => overB S d allB
  | .any => overB S d anyB
  | .sorted => sortedD m S d
  | .sortset => (match lstOf S d with
    | some xs => if sortable xs then mkL m (sortD (dedup xs)) S else .bad
    | none => .bad)
  | .list => listD m S d
  | .dict => (match dctOf S d with
    | some kvs => mkD m kvs S
    | none => .bad)
  | .tuple => (match lstOf S d with
    | some xs => .ok (.tup xs) S
    | none => .bad)
  | .max => overI S d maxL
  | .sum => overI S d fun is => some is.sum
  | .range => (match d with
    | .int n => if -4096 ≤ n ∧ n ≤ 4096 then .ok (.vl (rangeD n.toNat)) S else .bad
    | _ => .bad)
  | .rrange => (match d with
    | .int n => if -4096 ≤ n ∧ n ≤ 4096 then .ok (.vl (rangeD n.toNat).reverse) S else .bad
    | _ => .bad)
  | .reversed => (match lstOf S d with
    | some xs => .ok (.vl xs.reverse) S
    | none => .bad)
  | _ => .bad
def indexOf? (x : D) : List D → Option Nat
  | [] => none
  | y :: r => if eqv y x then some 0 else (indexOf? x r).map (· + 1)
def setAt (S : Sto) (l : Nat) (o : Ob) : Sto := S.set l o
/-! ### o.m(args), o no instance of the program's -/
def bGet (S : Sto) (d : D) : List D → R D
  | [k] => (match dctOf S d with
    | some kvs => if keysOk kvs k then .ok ((dget kvs k).getD .non) S else .bad
    | none => .bad)
  | [k, x] => (match dctOf S d with
    | some kvs => if keysOk kvs k then .ok ((dget kvs k).getD x) S else .bad
    | none => .bad)
  | _ => .bad
def bSetd (S : Sto) (d : D) (as : List D) : R D := match d, as with
  | .loc l, [k, x] => (match S[l]? with
    | some (.dct kvs) => if keysOk kvs k && decide (kvs.length < 4096) then (match dget kvs k with
      | some v => .ok v S
      | none => .ok x (S.set l (.dct (dput kvs k x)))) else if mixOk kvs k && decide (kvs.length < 4096) then (match dget kvs k with
      | some v => .ok v S
      | none => .ok x (S.set l (.dct (kvs ++ [(k, x)])))) else .bad
    | _ => .bad)
  | _, _ => .bad
def bPop (S : Sto) (d : D) (as : List D) : R D := match d, as with
  | .loc l, [k] => (match S[l]? with
    | some (.dct kvs) => if keysOk kvs k then (match dget kvs k with
      | some v => .ok v (S.set l (.dct (ddel kvs k)))
      | none => .bad) else .bad
    | _ => .bad)
  | _, _ => .bad
def bPopl (S : Sto) (d : D) (as : List D) : R D := match d, as with
  | .loc l, [.int i] => (match S[l]? with
    | some (.lst xs) => (match atI xs.length i with
      | some j => .ok (xs.getD j .non) (S.set l (.lst (xs.eraseIdx j)))
      | none => .bad)
    | _ => .bad)
  | _, _ => .bad
def bApp (S : Sto) (d : D) (as : List D) : R D := match d, as with
  | .loc l, [x] => (match S[l]? with
    | some (.lst xs) => if xs.length < 4096 then .ok .non (S.set l (.lst (xs ++ [x]))) else .bad
    | _ => .bad)
  | _, _ => .bad
def bExt (S : Sto) (d : D) (as : List D) : R D := match d, as with
  | .loc l, [y] => (match S[l]?, lstOf S y with
    | some (.lst xs), some ys => if xs.length + ys.length < 4096 then .ok .non (S.set l (.lst (xs ++ ys))) else .bad
    | _, _ => .bad)
  | _, _ => .bad
def bCnt (S : Sto) (d : D) (as : List D) : R D := match as with
  | [x] => (match lstOf S d with
    | some xs => if flat 9 x && flats 9 xs then .ok (.int (xs.countP fun y => eqv y x : Nat)) S else .bad
    | none => .bad)
  | _ => .bad
def bIdx (S : Sto) (d : D) (as : List D) : R D := match as with
  | [x] => (match lstOf S d with
    | some xs => if flat 9 x && flats 9 xs then (match indexOf? x xs with
      | some i => .ok (.int i) S
      | none => .bad) else .bad
    | none => .bad)
  | _ => .bad
def bVal (S : Sto) (d : D) (as : List D) : R D := match as with
  | [] => (match dctOf S d with
    | some kvs => .ok (.vl (kvs.map (·.2))) S
    | none => .bad)
  | _ => .bad
def bmeth (S : Sto) (b : Bmt) (d : D) (as : List D) : R D := match b with
  | .get => bGet S d as
  | .setdefault => bSetd S d as
  | .pop => bPop S d as
  | .popl => bPopl S d as
  | .append => bApp S d as
  | .extend => bExt S d as
  | .count => bCnt S d as
  | .index => bIdx S d as
  | .values => bVal S d as
  | _ => .bad
/-- what a method is asked of, as it is ahead of its arguments -/
def recv (S : Sto) (b : Bmt) (d : D) : Bool := match b with
  | .get => (dctOf S d).isSome
  | .setdefault => (dctOf S d).isSome
  | .pop => (dctOf S d).isSome
  | .values => (dctOf S d).isSome
  | .append => (lstOf S d).isSome
  | .extend => (lstOf S d).isSome
  | .count => (lstOf S d).isSome
  | .index => (lstOf S d).isSome
  | .popl => (lstOf S d).isSome
  | _ => isStr d

/-- old part of a store behind a call: each object as it was, or without places -/
def kept : Sto → Sto → Bool
  | [], _ => true
  | o :: r, u :: v => (u.noLoc || Ob.same o u) && kept r v
  | _ :: _, [] => false
/-- behind a call from the store S: what is new and not told is dropped; a new list or dict is handed on as a value (fz) or as the first new place -/
def fin (fz : Bool) (S : Sto) (d : D) (S' : Sto) : R D :=
  if kept S S' then
    if noLoc d then .ok d (S'.take S.length)
    else match d with
      | .loc l => if S.length ≤ l then (match S'[l]? with
          | some (.lst xs) => if noLocs xs then (if fz then .ok (.vl xs) (S'.take S.length) else .ok (.loc S.length) (S'.take S.length ++ [.lst xs])) else .ok d S'
          | some (.dct kvs) => if noLocK kvs then (if fz then .ok (.vd kvs) (S'.take S.length) else .ok (.loc S.length) (S'.take S.length ++ [.dct kvs])) else .ok d S'
          | _ => .ok d S') else .ok d S'
      | _ => .ok d S'
  else .ok d S'
def finish (fz : Bool) (S : Sto) : O → R D
  | .nx _ S' => fin fz S .non S'
  | .rt d S' => fin fz S d S'
  | .exc x S' => .exc x S'
  | _ => .bad
def start (F : Fun) (ds : List D) : Slots := ds.map some ++ List.replicate (F.ns - F.np) none
def setAll : List Nat → List D → Slots → Option Slots
  | [], [], σ => some σ
  | i :: is, d :: ds, σ => setAll is ds (σ.set i (some d))
  | _, _, _ => none
def bindT (ts : List Nat) (d : D) (σ : Slots) : Option Slots := match ts with
  | [i] => some (σ.set i (some d))
  | ts => match d with
    | .tup xs => setAll ts xs σ
    | _ => none
def wipeD (σ : Slots) : List Nat → Slots
  | [] => σ
  | i :: r => (wipeD σ r).set i none

/-- x[k] of a list in the store, before x[k] += .. -/
def augGet (S : Sto) (x k : D) : Option D := match x, k with
  | .loc l, .int j => (match S[l]? with
    | some (.lst xs) => if 0 ≤ j ∧ j < 4096 then xs[j.toNat]? else none
    | _ => none)
  | _, _ => none
def augI (x y : D) : Option D := match x, y with
  | .int i, .int j => some (.int (i + j))
  | _, _ => none
/-- x[k] = d -/
def subSet (S : Sto) (x k d : D) : Option Sto := match x with
  | .loc l => (match S[l]? with
    | some (.dct kvs) => if keysOk kvs k && decide (kvs.length < 4096) then some (S.set l (.dct (dput kvs k d))) else none
    | some (.lst xs) => (match k with
      | .int j => (match atI xs.length j with
        | some n => some (S.set l (.lst (xs.set n d)))
        | none => none)
      | _ => none)
    | _ => none)
  | _ => none
/-- x, *y = d -/
def starS (i j : Nat) (σ : Slots) (d : D) (S : Sto) : O := match lstOf S d with
  | some (x :: xs) => if xs.length ≤ 4096 then .nx ((σ.set i (some x)).set j (some (.vl xs))) S else .bad
  | _ => .bad
section
variable (P : Prog) (call : Fun → List D → Sto → O)
/-- x.f -/
def fldGet (S : Sto) (x : D) (f : Str) : Option D := match x with
  | .loc l => (match S[l]? with
    | some (.ins c fs) => if (P.flds c).contains f then getF fs f else none
    | _ => none)
  | _ => none
/-- x.f = d -/
def fldSet (S : Sto) (x : D) (f : Str) (d : D) : Option Sto := match x with
  | .loc l => (match S[l]? with
    | some (.ins c fs) => if (P.flds c).contains f && decide (fs.length < 100) then some (S.set l (.ins c (putF fs f d))) else none
    | _ => none)
  | _ => none
/-- a function of the program, called -/
def callF (fz : Bool) (F : Fun) (ds : List D) (S : Sto) : R D := finish fz S (call F (ds ++ F.dfl.drop (ds.length + F.dfl.length - F.np)) S)
/-- as many arguments as it takes -/
def arity (F : Option Fun) (n : Nat) : Option Fun := match F with
  | some F => if n ≤ F.np ∧ F.np ≤ n + F.dfl.length then some F else none
  | none => none
def lock (S : Sto) (d : D) : Sto := match d with
  | .loc l => (match S[l]? with
    | some (.dct kvs) => S.set l (.fdct kvs)
    | _ => S)
  | _ => S
def unlock (S0 : Sto) (S : Sto) (d : D) : Option Sto := match d with
  | .loc l => (match S0[l]?, S[l]? with
    | some (.dct a), some (.fdct b) => if D.sameK a b then some (S.set l (.dct a)) else none
    | some (.lst a), some (.lst b) => if D.sames a b then some S else none
    | some (.fdct _), some (.fdct _) => some S
    | _, _ => none)
  | _ => some S
/-- what a list that is walked holds stays; k: it is a dict -/
def stays (k : Bool) (xs : List D) (S : Sto) (d : D) : Bool := match d with
  | .loc l => (match S[l]? with
    | some (.lst ys) => !k && D.sames xs ys
    | some (.fdct _) => k
    | _ => false)
  | _ => true
def enumS (x : D) (S : Sto) : R D := match x with
  | .vl xs => .ok (.vl (enumD 0 xs)) S
  | _ => .bad
def lrngS (m : Bool) (x : D) (S : Sto) : R D := match x with
  | .int n => if -4096 ≤ n ∧ n ≤ 4096 then mkL m (rangeD n.toNat) S else .bad
  | _ => .bad
/-- a display's pairs: key, value, key, value .. -/
def pairsD : List (D × D) → List D → Option (List (D × D))
  | acc, [] => some acc
  | acc, k :: v :: r => if keysOk acc k && decide (acc.length < 15) then pairsD (dput acc k v) r else none
  | _, [_] => none
/-- a display with keys of both kinds, each once, the first a tuple -/
def pairsM : List (D × D) → List D → Option (List (D × D))
  | acc, [] => if mixd acc then some acc else none
  | acc, k :: v :: r => if (kOk k && (keyT k || (keyK k && !acc.isEmpty))) && (!dhas acc k && decide (acc.length < 15)) then pairsM (acc ++ [(k, v)]) r else none
  | _, [_] => none
def pairsX (ds : List D) : Option (List (D × D)) := match pairsD [] ds with
  | some acc => some acc
  | none => pairsM [] ds
def isDct (S : Sto) (d : D) : Bool := (lstOf S d).isNone
def lcGo (f : D → Sto → R (Option D)) (k : Bool) (d : D) (all : List D) : List D → Sto → List D → R (List D)
  | [], S, acc => if stays k all S d then .ok acc S else .bad
  | x :: r, S, acc => if stays k all S d && decide (acc.length < 4096) then (match f x S with
    | .ok (some y) S' => lcGo f k d all r S' (acc ++ [y])
    | .ok none S' => lcGo f k d all r S' acc
    | .exc _ _ => .bad
    | .bad => .bad) else .bad
/-- what __init__ takes -/
def newQ (P : Prog) (c : Str) (n : Nat) (kn : List Str) : Option Fun := match arity (P.meth c (Str.ofString "__init__")) n with
  | some F => if decide (F.kwo = none) && decide (kn = []) then some F else none
  | none => none
/-- what __len__ may answer -/
def lenY (y : D) (S : Sto) : R D := match y with
  | .int i => if 0 ≤ i ∧ i < 4611686018427387904 then .ok (.int i) S else .bad
  | _ => .bad
/-- the method that is asked -/
def methQ (P : Prog) (S : Sto) (x : D) (m : Str) (n : Nat) (kn : List Str) : Option Fun := match x with
  | .loc l => (match S[l]? with
    | some (.ins c fs) => if (getF fs m).isNone then (match arity (P.meth c m) n with
      | some F => if decide (F.kwo = kn.head?) && decide (kn.length ≤ 1) then some F else none
      | none => none) else none
    | _ => none)
  | _ => none
mutual
def ev (σ : Slots) : E → Sto → R D
  | .var i, S => match σ[i]? with
    | some (some d) => .ok d S
    | _ => .bad
  | .cst d, S => .ok d S
  | .glb x, S => match P.glb x with
    | some d => .ok d S
    | none => .bad
  | .tup es, S => (evs σ es S).bind fun ds S1 => .ok (.tup ds) S1
  | .lst m es, S => (evs σ es S).bind fun ds S1 => mkL m ds S1
  | .dct m kvs, S => (evs σ kvs S).bind fun ds S1 => match pairsX ds with
    | some acc => mkD m acc S1
    | none => .bad
  | .bin m op a b, S => (ev σ a S).bind fun x S1 => (ev σ b S1).bind fun y S2 => binop m S2 op x y
  | .neg a, S => (ev σ a S).bind fun x S1 => match x with
    | .int i => .ok (.int (-i)) S1
    | _ => .bad
  | .not a, S => (ev σ a S).bind fun x S1 => match x with
    | .bl b => .ok (.bl (!b)) S1
    | _ => .bad
  | .and a b, S => (ev σ a S).bind fun x S1 => match x with
    | .bl true => ev σ b S1
    | .bl false => .ok (.bl false) S1
    | _ => .bad
  | .or a b, S => (ev σ a S).bind fun x S1 => match x with
    | .bl true => .ok (.bl true) S1
    | .bl false => ev σ b S1
    | _ => .bad
  | .ite c a b, S => (ev σ c S).bind fun x S1 => match x with
    | .bl true => ev σ a S1
    | .bl false => ev σ b S1
    | _ => .bad
  | .cmp op a b, S => (ev σ a S).bind fun x S1 => (ev σ b S1).bind fun y S2 => match cmpop S2 op x y with
    | some k => .ok (.bl k) S2
    | none => .bad
  | .chn o1 o2 a b c, S => (ev σ a S).bind fun x S1 => (ev σ b S1).bind fun y S2 => match cmpop S2 o1 x y with
    | some true => (ev σ c S2).bind fun z S3 => (match cmpop S3 o2 y z with
      | some k => .ok (.bl k) S3
      | none => .bad)
    | some false => .ok (.bl false) S2
    | none => .bad
  | .idx a b, S => (ev σ a S).bind fun x S1 => (ev σ b S1).bind fun y S2 => index S2 x y
  | .slc a lo hi, S => (ev σ a S).bind fun x S1 => (evs σ lo S1).bind fun l S2 => match cutO l with
    | none => .bad
    | some i => (evs σ hi S2).bind fun h S3 => match cutO h with
      | none => .bad
      | some j => sliceI S3 x i j
  | .rev a, S => (ev σ a S).bind fun x S1 => match lstOf S1 x with
    | some xs => .ok (.vl xs.reverse) S1
    | none => .bad
  | .fld a f, S => (ev σ a S).bind fun x S1 => match fldGet P S1 x f with
    | some d => .ok d S1
    | none => .bad
  | .call fz f es, S => match arity (P.fn f) es.len with
    | none => .bad
    | some F => (evs σ es S).bind fun ds S1 => callF call fz F ds S1
  | .calv fz f es, S => (ev σ f S).bind fun g S1 => match g with
    | .fn f => (match arity (P.fn f) es.len with
      | none => .bad
      | some F => (evs σ es S1).bind fun ds S2 => callF call fz F ds S2)
    | _ => .bad
  | .meth fz o m es kn ks, S => (ev σ o S).bind fun x S1 => match methQ P S1 x m (es.len + ks.len + 1) kn with
    | some F => (evs σ es S1).bind fun ds S2 => (evs σ ks S2).bind fun us S3 => callF call fz F (x :: (ds ++ us)) S3
    | none => .bad
  | .new c es kn ks, S => match newQ P c (es.len + ks.len + 1) kn with
    | none => .bad
    | some F => (evs σ es S).bind fun ds S1 => (evs σ ks S1).bind fun us S2 =>
      (callF call false F (.loc S2.length :: (ds ++ us)) (S2 ++ [.ins c []])).bind fun v S3 => match v with
      | .non => .ok (.loc S2.length) S3
      | _ => .bad
  | .blt m b a, S => (ev σ a S).bind fun x S1 => builtin m S1 b x
  | .bm b o es, S => (ev σ o S).bind fun x S1 => if recv S1 b x then (evs σ es S1).bind fun ds S2 => bmeth S2 b x ds else .bad
  | .isi a t, S => (ev σ a S).bind fun x S1 => match isA S1 t x with
    | some b => .ok (.bl b) S1
    | none => .bad
  | .leni a, S => (ev σ a S).bind fun x S1 => match methQ P S1 x (Str.ofString "__len__") 1 [] with
    | some F => (callF call true F [x] S1).bind lenY
    | none => .bad
  | .enum a, S => (ev σ a S).bind fun x S1 => enumS x S1
  | .vals m a, S => (ev σ a S).bind fun x S1 => match dctOf S1 x with
    | some kvs => mkL m (kvs.map (·.2)) S1
    | none => .bad
  | .lrng m a, S => (ev σ a S).bind fun x S1 => lrngS m x S1
  | .lc m ts it cond elt, S => (ev σ it S).bind fun d S1 => match itemsOf it.isVar it.pureIt S1 d with
    | none => .bad
    | some xs => (lcGo (fun x S2 => match bindT ts x (wipeD σ ts) with
        | none => .bad
        | some σ' => (evc σ' cond S2).bind fun b S3 => if b then (ev σ' elt S3).bind fun y S4 => .ok (some y) S4 else .ok none S3) (isDct S1 d) d xs xs (lock S1 d) []).bind fun ys S2 => match unlock S1 S2 d with
      | some S3 => mkL m ys S3
      | none => .bad
def evs (σ : Slots) : Es → Sto → R (List D)
  | .nil, S => .ok [] S
  | .cons e r, S => (ev σ e S).bind fun d S1 => (evs σ r S1).bind fun ds S2 => .ok (d :: ds) S2
/-- the tests of a comprehension -/
def evc (σ : Slots) : Es → Sto → R Bool
  | .nil, S => .ok true S
  | .cons e r, S => (ev σ e S).bind fun d S1 => match d with
    | .bl true => evc σ r S1
    | .bl false => .ok false S1
    | _ => .bad
end

/-- a target takes a value -/
def store (σ : Slots) (t : Tg) (d : D) (S : Sto) : O := match t with
  | .name i => .nx (σ.set i (some d)) S
  | .names is => (match d with
    | .tup xs => (match setAll is xs σ with
      | some σ' => .nx σ' S
      | none => .bad)
    | _ => .bad)
  | .star i j => starS i j σ d S
  | .sub o i => (match (ev P call σ o S).bind fun x S1 => (ev P call σ i S1).bind fun k S2 => (match subSet S2 x k d with
      | some S3 => .ok D.non S3
      | none => .bad) with
    | .ok _ S3 => .nx σ S3
    | .exc x S3 => .exc x S3
    | .bad => .bad)
  | .fld o f => (match (ev P call σ o S).bind fun x S1 => (match fldSet P S1 x f d with
      | some S2 => .ok D.non S2
      | none => .bad) with
    | .ok _ S3 => .nx σ S3
    | .exc x S3 => .exc x S3
    | .bad => .bad)
def whGo (f : Slots → Sto → R Bool) (g : Slots → Sto → O) : Nat → Slots → Sto → O
  | 0, _, _ => .bad
  | n + 1, σ, S => match f σ S with
    | .ok true S1 => (match g σ S1 with
      | .nx σ' S2 => whGo f g n σ' S2
      | .ct σ' S2 => whGo f g n σ' S2
      | o => o)
    | .ok false S1 => .nx σ S1
    | .exc x S1 => .exc x S1
    | .bad => .bad
def foGo (ts : List Nat) (g : Slots → Sto → O) (k : Bool) (d : D) (all : List D) : List D → Slots → Sto → O
  | [], σ, S => if stays k all S d then .nx σ S else .bad
  | x :: r, σ, S => if stays k all S d then (match bindT ts x σ with
    | none => .bad
    | some σ' => match g σ' S with
      | .nx σ2 S2 => foGo ts g k d all r σ2 S2
      | .ct σ2 S2 => foGo ts g k d all r σ2 S2
      | o => o) else .bad
/-- behind a walk; an exception leaves the dict locked -/
def unO (S0 : Sto) (d : D) : O → O
  | .nx σ S => (match unlock S0 S d with
    | some S1 => .nx σ S1
    | none => .bad)
  | .rt v S => (match unlock S0 S d with
    | some S1 => .rt v S1
    | none => .bad)
  | .exc x S => .exc x S
  | _ => .bad
/-- try: .. except TreeError as e: return which(e) -/
def tryO (es : List Str) (o : O) : O := match o with
  | .exc x S1 => if es.contains x = true then .rt (refD x) S1 else .bad
  | o => o
mutual
def ex : C → Slots → Sto → O
  | .expr e, σ, S => match ev P call σ e S with
    | .ok _ S1 => .nx σ S1
    | .exc x S1 => .exc x S1
    | .bad => .bad
  | .asg t e, σ, S => match ev P call σ e S with
    | .ok d S1 => store P call σ t d S1
    | .exc x S1 => .exc x S1
    | .bad => .bad
  | .aug t e, σ, S => match t with
    | .name i => (match (ev P call σ (.var i) S).bind fun x S1 => (ev P call σ e S1).bind fun y S2 => (match augI x y with
        | some z => .ok z S2
        | none => .bad) with
      | .ok d S1 => .nx (σ.set i (some d)) S1
      | .exc x S1 => .exc x S1
      | .bad => .bad)
    | .sub o i => (match (ev P call σ o S).bind fun x S1 => (ev P call σ i S1).bind fun k S2 => (match augGet S2 x k with
        | some u => (ev P call σ e S2).bind fun y S3 => (match augI u y with
          | some z => (match subSet S3 x k z with
            | some S4 => .ok D.non S4
            | none => .bad)
          | none => .bad)
        | none => .bad) with
      | .ok _ S1 => .nx σ S1
      | .exc x S1 => .exc x S1
      | .bad => .bad)
    | .fld o f => (match (ev P call σ o S).bind fun x S1 => (match fldGet P S1 x f with
        | some u => (ev P call σ e S1).bind fun y S2 => (match augI u y with
          | some z => (match fldSet P S2 x f z with
            | some S3 => .ok D.non S3
            | none => .bad)
          | none => .bad)
        | none => .bad) with
      | .ok _ S1 => .nx σ S1
      | .exc x S1 => .exc x S1
      | .bad => .bad)
    | _ => .bad
  | .ret e, σ, S => match ev P call σ e S with
    | .ok d S1 => .rt d S1
    | .exc x S1 => .exc x S1
    | .bad => .bad
  | .ifs c a b, σ, S => match ev P call σ c S with
    | .ok (.bl true) S1 => exs a σ S1
    | .ok (.bl false) S1 => exs b σ S1
    | .exc x S1 => .exc x S1
    | _ => .bad
  | .fors ts it b, σ, S => match ev P call σ it S with
    | .ok d S1 => (match itemsOf it.isVar it.pureIt S1 d with
      | some xs => unO S1 d (foGo ts (fun σ' S2 => exs b σ' S2) (isDct S1 d) d xs xs σ (lock S1 d))
      | none => .bad)
    | .exc x S1 => .exc x S1
    | .bad => .bad
  | .whl c b, σ, S => whGo (fun σ' S1 => (ev P call σ' c S1).bind fun x S2 => match x with
      | .bl k => .ok k S2
      | _ => .bad) (fun σ' S1 => exs b σ' S1) 64 σ S
  | .raise x, _, S => if P.exc.contains x then .exc x S else .bad
  | .tryw b, σ, S => if P.whi = true then tryO P.exc (exs b σ S) else .bad
  | .any, _, _ => .bad
  | .cont, σ, S => .ct σ S
  | .pass, σ, S => .nx σ S
def exs : Cs → Slots → Sto → O
  | .nil, σ, S => .nx σ S
  | .cons c r, σ, S => match ex c σ S with
    | .nx σ' S' => exs r σ' S'
    | o => o
end
end

/-- a call to a depth of n -/
def callN (P : Prog) : Nat → Fun → List D → Sto → O
  | 0, _, _, _ => .bad
  | n + 1, F, ds, S => exs P (callN P n) F.body (start F ds) S
end Lt
namespace Lt
open PySem (Str)
section
variable (fnT : List (Str × Fun)) (excN : List Str) (strT : List (Str × Str)) (intT : List (Str × Int)) (tupT : List (Str × Str)) (fvN : List Str) (wh : Bool) (clT : List (Str × List (Str × Fun) × List Str))
def glN : List Str := fnT.map (fun p => p.1) ++ (excN ++ (tupT.map (fun p => p.1) ++ clT.map fun p => p.1))
def glOf : List (Str × D) := strT.map (fun p => (p.1, D.str p.2)) ++ (intT.map (fun p => (p.1, D.int p.2)) ++ (tupT.map (fun p => (p.1, D.tup [D.str p.2])) ++ fvN.map fun x => (x, D.fn x)))
def mtOf (c m : Str) : Option Fun := match clT.lookup c with
  | some t => t.1.lookup m
  | none => none
def flOf (c : Str) : List Str := match clT.lookup c with
  | some t => t.2
  | none => []
def progOf : Prog := ⟨fun x => fnT.lookup x, mtOf clT, fun x => (glOf strT intT tupT fvN).lookup x, excN, flOf clT, wh⟩
end
end Lt
namespace Lt
open PySem L2 PySem.Spec PyProof.Rows
abbrev MKey := Sum L2.Key (List L2.Key)
/-- a key with the place of its tuple -/
abbrev MEnt := Sum L2.Key (List L2.Key × Addr)
def mK : MEnt → MKey
  | .inl k => .inl k
  | .inr p => .inr p.1
def mV : MEnt → V
  | .inl k => kV k
  | .inr p => .ref p.2
def mH (wo : World) : MKey → Int
  | .inl k => keyH wo k
  | .inr ks => reduceHash (Builtin.Tuple.tupleHashOf (ks.map (keyH wo)))
def mIs : MEnt → Value → Prop
  | .inl k, v => keyIs k v = true
  | .inr p, v => v = .ref p.2
def EntM (wo : World) (p : MEnt × V) (e : DictEntry) : Prop := mIs p.1 e.key ∧ e.hash = mH wo (mK p.1) ∧ RelV p.2 e.val
def MxAt (wo : World) (a : Addr) (L : List (MEnt × V)) (h : Heap) : Prop :=
  L.length ≤ sizeLine ∧ (a == sysModules) = false ∧ ∃ o es ep, h.get? a = some o ∧ o.ExactDict ∧ o.data = .dict es ep ∧ Paired (EntM wo) L es.toList ∧ (L.map fun p => mK p.1).Nodup
/-- a dict with keys of two kinds, as a thing that is tracked -/
def mxO (wo : World) (a : Addr) (L : List (MEnt × V)) : HO := .ext (MxAt wo a L)
theorem MxAt.stay {wo : World} {a : Addr} {L : List (MEnt × V)} {h h' : Heap} (x : MxAt wo a L h) (k : ∀ o, h.get? a = some o → h'.get? a = some o) : MxAt wo a L h' := by
  obtain ⟨z, n, o, es, ep, e, c⟩ := x
  exact ⟨z, n, o, es, ep, k _ e, c⟩
theorem mx_ok {P : Program} {wo wo2 : World} {H : Hp} {h : Heap} {a : Addr} {L : List (MEnt × V)} (x : MxAt wo a L h) : ObjOk P wo2 H h a (mxO wo a L) :=
  ⟨x, by obtain ⟨_, _, o, _, _, e, _⟩ := x; exact ⟨o, e⟩, fun _ _ y k => y.stay k⟩
theorem mx_at {P : Program} {wo wo2 : World} {H : Hp} {h : Heap} {a : Addr} {L : List (MEnt × V)} (x : ObjOk P wo2 H h a (mxO wo a L)) : MxAt wo a L h := x.1
/-- the key's tuple stands there -/
def TupOk (P : Program) (wo : World) (h : Heap) : MEnt → Prop
  | .inl _ => True
  | .inr p => (tupleKind (mixKind P wo)).is h p.1 p.2
section
variable {P : Program} {wo : World} {A : Around} {E : Value → Shared → Prop} {s : Shared}
theorem isTuple_of {h : Heap} {ks : List L2.Key} {b : Addr} (x : (tupleKind (mixKind P wo)).is h ks b) : ∃ its, h.IsTuple b its := by
  obtain ⟨o, items, n, h1, h2, h3, _⟩ := x
  exact ⟨items, o, h1, h2, n, h3⟩
theorem mIs_shape {m : MEnt} {v : Value} (h : mIs m v) : (∃ i t, m = .inl (.inl i) ∧ v = .int i t) ∨ (∃ x t, m = .inl (.inr x) ∧ v = .str x t) ∨ ∃ ks b, m = .inr (ks, b) ∧ v = .ref b := by
  cases m with
  | inl k =>
    rcases keyIs_shape h with ⟨i, t, rfl, rfl⟩ | ⟨x, t, rfl, rfl⟩
    · exact .inl ⟨i, t, rfl, rfl⟩
    · exact .inr (.inl ⟨x, t, rfl, rfl⟩)
  | inr p => exact .inr (.inr ⟨p.1, p.2, rfl, h⟩)
/-- keys, asked whether they are equal -/
theorem eqM (hu : A.units < cLine) {x y : MEnt} {v u : Value} (hx : mIs x v) (hy : mIs y u) (tx : TupOk P wo s.heap x) (ty : TupOk P wo s.heap y) {Q : Bool → Shared → Prop} (q : Q (decide (mK x = mK y)) s) :
    wpAny (model P wo) A (eqBool v u) Q E s := by
  cases x with
  | inl k =>
    cases y with
    | inl k' =>
      refine (mixKind P wo).eqBool hx hy ?_
      rw [show decide (k = k') = decide (mK (.inl k) = mK (.inl k')) from decide_eq_decide.mpr ⟨fun e => by rw [e], fun e => Sum.inl.inj e⟩]
      exact q
    | inr p =>
      obtain ⟨its, ht⟩ := isTuple_of ty
      have hy : u = .ref p.2 := hy
      subst hy
      rw [show decide (mK (.inl k) = mK (.inr p)) = false from decide_eq_false (fun z => nomatch z)] at q
      rcases keyIs_shape hx with ⟨i, t, rfl, rfl⟩ | ⟨x, t, rfl, rfl⟩
      · exact SeqAt.EqAt.int_tuple i t ht hu _ _ _ _ q
      · exact SeqAt.EqAt.str_tuple x t ht hu _ _ _ _ q
  | inr p =>
    have hx : v = .ref p.2 := hx
    subst hx
    cases y with
    | inl k =>
      obtain ⟨its, ht⟩ := isTuple_of tx
      rw [show decide (mK (.inr p) = mK (.inl k)) = false from decide_eq_false (fun z => nomatch z)] at q
      rcases keyIs_shape hy with ⟨i, t, rfl, rfl⟩ | ⟨x, t, rfl, rfl⟩
      · exact SeqAt.EqAt.tuple_int i t ht hu _ _ _ _ q
      · exact SeqAt.EqAt.tuple_str x t ht hu _ _ _ _ q
    | inr p' =>
      have hy : u = .ref p'.2 := hy
      subst hy
      refine (tupleKind (mixKind P wo)).eqBool (x := p.1) (y := p'.1) hu tx ty ?_
      rw [show decide (p.1 = p'.1) = decide (mK (.inr p) = mK (.inr p')) from decide_eq_decide.mpr ⟨fun e => by show Sum.inr _ = Sum.inr _; rw [e], fun e => Sum.inr.inj e⟩]
      exact q
theorem quietM {m : MEnt} {v : Value} (h : mIs m v) (t : TupOk P wo s.heap m) {Q : Bool → Shared → Prop} (q : Q true s) : wpAny (model P wo) A (eqIsQuiet 8 v) Q E s := by
  rcases mIs_shape h with ⟨i, t, rfl, rfl⟩ | ⟨x, t, rfl, rfl⟩ | ⟨ks, b, rfl, rfl⟩
  · exact wpAny_pure q
  · exact wpAny_pure q
  · exact (tupleKind (mixKind P wo)).quiet t q
theorem wp_ite {α : Type} {M : Model} {c : Prop} [Decidable c] {a b : Sem α} {Q : α → Shared → Prop} (h1 : c → wpAny M A a Q E s) (h2 : ¬ c → wpAny M A b Q E s) : wpAny M A (if c then a else b) Q E s := by
  by_cases h : c
  · rw [if_pos h]; exact h1 h
  · rw [if_neg h]; exact h2 h
/-- keys of one hash do not tell -/
theorem tellM {m : MEnt} {v : Value} {stored : List Value} (h : mIs m v) (t : TupOk P wo s.heap m) (hs : ∀ z ∈ stored, ∃ x, mIs x z ∧ TupOk P wo s.heap x) {Q : Bool → Shared → Prop} (q : Q false s) :
    wpAny (model P wo) A (tableMayTell v stored) Q E s := by
  unfold tableMayTell
  split
  · exact wpAny_pure q
  · refine wpAny_bind (quietM h t ?_)
    rw [if_neg (by simp)]
    refine wpAny_bind (wpAny_forIn_list _ (fun left r s' => s' = s ∧ r = (none, ()) ∧ ∀ z ∈ left, z ∈ stored) _ ?_ ?_ _ _ ⟨rfl, rfl, fun _ z => z⟩)
    · rintro x left r s' ⟨rfl, rfl, hl⟩
      obtain ⟨y, hy, ty⟩ := hs x (hl x List.mem_cons_self)
      refine wpAny_bind (quietM hy ty ?_)
      rw [if_neg (by simp)]
      exact wpAny_pure ⟨rfl, rfl, fun z hz => hl z (List.mem_cons_of_mem _ hz)⟩
    · rintro r s' ⟨rfl, rfl, _⟩
      exact wpAny_pure q
theorem Paired.at_ {α β : Type} {F : α → β → Prop} : ∀ {l : List α} {m : List β}, Paired F l m → ∀ {j : Nat} {y : β}, m[j]? = some y → ∃ x, l[j]? = some x ∧ F x y
  | _, _, .nil, j, y, e => by simp at e
  | _, _, .cons h t, 0, y, e => by
    obtain rfl : _ = y := by simpa using e
    exact ⟨_, rfl, h⟩
  | _, _, .cons h t, j + 1, y, e => by
    obtain ⟨x, h1, h2⟩ := Paired.at_ t (j := j) (y := y) (by simpa using e)
    exact ⟨x, by simpa using h1, h2⟩
/-- the keys' places -/
theorem key_once {L : List (MEnt × V)} (nd : (L.map fun p => mK p.1).Nodup) {i j : Nat} {p q : MEnt × V} (hi : L[i]? = some p) (hj : L[j]? = some q) (e : mK p.1 = mK q.1) : i = j := by
  have h1 : (L.map fun p => mK p.1)[i]? = some (mK p.1) := by rw [List.getElem?_map, hi]; rfl
  have h2 : (L.map fun p => mK p.1)[j]? = some (mK p.1) := by rw [List.getElem?_map, hj, e]; rfl
  exact (List.getElem?_inj (List.getElem?_eq_some_iff.mp h1).1 nd).mp (h1.trans h2.symm)
/-- what is known of a key behind the first i entries -/
def Seen (L : List (MEnt × V)) (k : MKey) (i : Nat) (hit : Option Nat) : Prop := (hit = none ∧ ∀ j p, j < i → L[j]? = some p → mK p.1 ≠ k) ∨ ∃ j p, hit = some j ∧ j < i ∧ L[j]? = some p ∧ mK p.1 = k
theorem Seen.skip {L : List (MEnt × V)} {k : MKey} {i x : Nat} {hit : Option Nat} (h : Seen L k i hit) (hx : i ≤ x) (no : ∀ j p, i ≤ j → j < x → L[j]? = some p → mK p.1 ≠ k) : Seen L k x hit := by
  rcases h with ⟨e, h⟩ | ⟨j, p, e, h1, h2⟩
  · refine .inl ⟨e, fun j p hj e2 => ?_⟩
    rcases Nat.lt_or_ge j i with z | z
    · exact h j p z e2
    · exact no j p z hj e2
  · exact .inr ⟨j, p, e, by omega, h2⟩
theorem find_mx {d : Addr} {u : Value} {m : MEnt} {L : List (MEnt × V)} {o : Obj} {es : Array DictEntry} {ep : Nat} {Q : Option Nat → Shared → Prop} (hu : A.units < cLine) (hm : mIs m u) (tm : TupOk P wo s.heap m) (tL : ∀ p ∈ L, TupOk P wo s.heap p.1)
    (ho : s.heap.get? d = some o) (hd : o.data = .dict es ep) (pr : Paired (EntM wo) L es.toList) (nd : (L.map fun p => mK p.1).Nodup) (ns : (∃ x t, u = .str x t) → ∃ p ∈ L, ∃ q, p.1 = .inr q)
    (no : (∀ p ∈ L, mK p.1 ≠ mK m) → Q none s) (yes : ∀ j p, L[j]? = some p → mK p.1 = mK m → Q (some j) s) : wpAny (model P wo) A (dictFind d u (mH wo (mK m))) Q E s := by
  have at_ : ∀ {j : Nat} {e : DictEntry}, es[j]? = some e → ∃ p, L[j]? = some p ∧ EntM wo p e := fun {j e} h => Paired.at_ pr (by rw [Array.getElem?_toList]; exact h)
  have sz : es.size = L.length := by rw [← Array.length_toList]; exact (Paired.length pr).symm
  have ok : ∀ {j : Nat} {p : MEnt × V}, L[j]? = some p → mK p.1 = mK m → ((es[j]?.map (·.hash)) == some (mH wo (mK m))) = true := fun {j p} hp e => by
    have hj : j < es.size := by rw [sz]; exact (List.getElem?_eq_some_iff.mp hp).1
    obtain ⟨p', h1, h2⟩ := at_ (Array.getElem?_eq_getElem hj)
    rw [hp] at h1
    cases h1
    rw [Array.getElem?_eq_getElem hj, Option.map_some, h2.2.1, e]
    exact beq_self_eq_true _
  have stored : ∀ z ∈ (placesWithHash es.size (fun i => es[i]?.map (·.hash)) (mH wo (mK m))).filterMap (fun i => es[i]?.map (·.key)), ∃ x, mIs x z ∧ TupOk P wo s.heap x := fun z hz => by
    obtain ⟨i, _, hi⟩ := List.mem_filterMap.mp hz
    cases e : es[i]? with
    | none => rw [e] at hi; cases hi
    | some en =>
      rw [e] at hi
      obtain rfl : en.key = z := by simpa using hi
      obtain ⟨p, h1, h2⟩ := at_ e
      exact ⟨p.1, h2.1, tL p (List.mem_of_getElem? h1)⟩
  have done_ : ∀ i hit, Seen L (mK m) i hit → (∀ j, i ≤ j → j < es.size → ((es[j]?.map (·.hash)) == some (mH wo (mK m))) = false) → Q hit s := fun i hit sn lo => by
    rcases sn with ⟨rfl, h⟩ | ⟨j, p, rfl, _, h1, h2⟩
    · refine no fun p hp e => ?_
      obtain ⟨j, hj⟩ := List.mem_iff_getElem?.mp hp
      rcases Nat.lt_or_ge j i with z | z
      · exact h j p z hj e
      · have := lo j z (by rw [sz]; exact (List.getElem?_eq_some_iff.mp hj).1)
        rw [ok hj e] at this
        cases this
    · exact yes j p h1 h2
  obtain ⟨k, hk⟩ : ∃ k, mK m = k := ⟨_, rfl⟩
  rw [hk] at ok stored done_ yes ⊢
  unfold dictFind
  refine wpAny_holding (wpAny_bind (wpAny_dictEntries ho hd ?_))
  have plain : wpAny (model P wo) A (dictWalkPlain d u (mH wo (k)) es (placesWithHash es.size (fun i => es[i]?.map (·.hash)) (mH wo (k)))) Q E s := by
    unfold dictWalkPlain
    refine wpAny_bind (wpAny_forIn_list _ (fun left r s' => s' = s ∧ r = (none, ()) ∧ ∃ i, left = (List.range' i (es.size - i)).filter (fun i => (es[i]?.map (·.hash)) == some (mH wo (k))) ∧ i ≤ es.size ∧ Seen L (k) i none) _ ?_ ?_ _ _
      ⟨rfl, rfl, 0, by rw [placesWithHash, List.range_eq_range', Nat.sub_zero], Nat.zero_le _, .inl ⟨rfl, fun j _ hj => absurd hj (Nat.not_lt_zero j)⟩⟩)
    · rintro x left r s' ⟨rfl, rfl, i, hr, hi, sn⟩
      obtain ⟨ix, xn, px, sk, rest⟩ := filter_range'_cons _ _ _ _ _ hr.symm
      have lt : x < es.size := by omega
      have hl : left = (List.range' (x + 1) (es.size - (x + 1))).filter (fun i => (es[i]?.map (·.hash)) == some (mH wo (k))) := by rw [rest]; congr 2; omega
      obtain ⟨p, h1, h2⟩ := at_ (Array.getElem?_eq_getElem lt)
      have sx := sn.skip (x := x) ix fun j q a b c e => by
        have := sk j a b
        rw [ok c e] at this
        cases this
      rw [Array.getElem?_eq_getElem lt] at px ⊢
      have hh : (es[x].hash == mH wo (k)) = true := by simpa using px
      dsimp only
      rw [if_pos hh]
      refine wpAny_bind (wpAny_dictEpoch ho hd (wpAny_bind (eqM hu h2.1 hm (tL p (List.mem_of_getElem? h1)) tm (wpAny_bind (wpAny_dictEpoch ho hd ?_)))))
      rw [if_neg (by simp)]
      rw [hk]
      by_cases he : mK p.1 = k
      · rw [decide_eq_true he, if_pos rfl]
        exact wpAny_bind (wpAny_rule (wpAny_pure (wpAny_pure (yes x p h1 he))))
      · rw [decide_eq_false he, if_neg (by simp)]
        refine wpAny_bind (wpAny_rule (wpAny_pure ⟨rfl, rfl, x + 1, hl, lt, ?_⟩))
        refine sx.skip (Nat.le_succ x) fun j q a b c => ?_
        obtain rfl : j = x := by omega
        rw [h1] at c
        cases c
        exact he
    · rintro r s' ⟨rfl, rfl, i, hr, hi, sn⟩
      refine wpAny_pure (done_ i none sn fun j a b => ?_)
      have := List.filter_eq_nil_iff.mp hr.symm j (List.mem_range'_1.mpr ⟨a, by omega⟩)
      simpa using this
  have nref : ∀ b, u = .ref b → ¬ (es.any fun e => e.key == u && e.hash != mH wo (k)) = true := fun b hb => by
    rw [← Array.any_toList, List.any_eq_true]
    rintro ⟨e, hin, hc⟩
    obtain ⟨j, hj⟩ := List.mem_iff_getElem?.mp hin
    rw [Array.getElem?_toList] at hj
    obtain ⟨p, h1, h2⟩ := at_ hj
    simp only [Bool.and_eq_true, beq_iff_eq, bne_iff_ne, ne_eq] at hc
    obtain ⟨c1, c2⟩ := hc
    apply c2
    rw [h2.2.1]
    congr 1
    rw [← hk]
    have h3 := h2.1
    have t3 := tL p (List.mem_of_getElem? h1)
    rw [c1, hb] at h3
    rw [hb] at hm
    rcases mIs_shape h3 with ⟨_, _, _, z⟩ | ⟨_, _, _, z⟩ | ⟨k1, b1, z1, z2⟩
    · cases z
    · cases z
    · cases z2
      rcases mIs_shape hm with ⟨_, _, _, z⟩ | ⟨_, _, _, z⟩ | ⟨k2, b2, z3, z4⟩
      · cases z
      · cases z
      · cases z4
        rw [z1] at t3
        rw [z3] at tm
        rw [z1, z3]
        show Sum.inr k1 = Sum.inr k2
        exact congrArg Sum.inr ((tupleKind (mixKind P wo)).inj t3 tm)
  rcases mIs_shape hm with ⟨i, t, rfl, rfl⟩ | ⟨x, t, rfl, rfl⟩ | ⟨ks, b, rfl, rfl⟩ <;> dsimp only
  case' inr.inl =>
    have hn : ¬ (es.all fun e => isExactStrKey e.key) = true := by
      obtain ⟨p, hp, q, e⟩ := ns ⟨_, _, rfl⟩
      obtain ⟨j, hj⟩ := List.mem_iff_getElem?.mp hp
      intro z
      rw [← Array.all_toList, List.all_eq_true] at z
      have hs : j < es.size := by rw [sz]; exact (List.getElem?_eq_some_iff.mp hj).1
      obtain ⟨p', h1, h2⟩ := at_ (Array.getElem?_eq_getElem hs)
      rw [hj] at h1
      cases h1
      have := z es[j] (by simp)
      have h3 := h2.1
      rw [e] at h3
      rw [show es[j].key = .ref q.2 from h3] at this
      cases this
    rw [if_neg hn]
  case' inr.inr => rw [if_neg (by simp [carriedByValue]), if_neg (nref _ rfl)]
  case' inl => refine wp_ite (fun _ => plain) fun _ => ?_
  case' inr.inl => refine wp_ite (fun _ => plain) fun _ => ?_
  all_goals
    refine wp_ite (fun _ => wpAny_bind (wpAny_pure ?_)) (fun _ => wpAny_bind (tellM hm tm stored ?_))
  all_goals
    rw [if_neg (by simp)]
    refine wpAny_bind (wpAny_forIn_list _ (fun left r s' => s' = s ∧ ∃ i hit, r = (none, hit) ∧ left = (List.range' i (es.size - i)).filter (fun i => (es[i]?.map (·.hash)) == some (mH wo k)) ∧ i ≤ es.size ∧ Seen L k i hit) _ ?_ ?_ _ _
      ⟨rfl, 0, none, rfl, by rw [placesWithHash, List.range_eq_range', Nat.sub_zero], Nat.zero_le _, .inl ⟨rfl, fun j _ hj => absurd hj (Nat.not_lt_zero j)⟩⟩)
    · rintro x left r s' ⟨rfl, i, hit, rfl, hr, hi, sn⟩
      obtain ⟨ix, xn, px, sk, rest⟩ := filter_range'_cons _ _ _ _ _ hr.symm
      have lt : x < es.size := by omega
      have hl : left = (List.range' (x + 1) (es.size - (x + 1))).filter (fun i => (es[i]?.map (·.hash)) == some (mH wo k)) := by rw [rest]; congr 2; omega
      obtain ⟨p, h1, h2⟩ := at_ (Array.getElem?_eq_getElem lt)
      have sx := sn.skip (x := x) ix fun j q a b c e => by
        have := sk j a b
        rw [ok c e] at this
        cases this
      rw [Array.getElem?_eq_getElem lt] at px ⊢
      have hh := px
      simp only [Option.map_some, Option.some_beq_some] at hh
      dsimp only
      rw [if_pos hh]
      refine wpAny_bind (wpAny_dictEpoch ho hd (wpAny_bind (eqM hu h2.1 hm (tL p (List.mem_of_getElem? h1)) tm (wpAny_bind (wpAny_dictEpoch ho hd ?_)))))
      rw [if_neg (by simp)]
      rw [hk]
      by_cases he : mK p.1 = k
      · rw [decide_eq_true he, if_pos rfl]
        rcases sx with ⟨rfl, _⟩ | ⟨j, q, _, e1, e2, e3⟩
        · rw [if_neg (by simp)]
          refine wpAny_bind (wpAny_rule (wp_ite (fun _ => wpAny_pure (wpAny_pure (yes x p h1 he))) fun _ => ?_))
          exact wpAny_pure ⟨rfl, x + 1, some x, rfl, hl, lt, .inr ⟨x, p, rfl, Nat.lt_succ_self x, h1, he⟩⟩
        · have := key_once nd e2 h1 (e3.trans he.symm)
          omega
      · rw [decide_eq_false he, if_neg (by simp)]
        refine wpAny_bind (wpAny_rule ?_)
        rw [if_neg (by simp)]
        refine wpAny_pure ⟨rfl, x + 1, hit, rfl, hl, lt, sx.skip (Nat.le_succ x) fun j q a b c => ?_⟩
        obtain rfl : j = x := by omega
        rw [h1] at c
        cases c
        exact he
    · rintro r s' ⟨rfl, i, hit, rfl, hr, hi, sn⟩
      refine wpAny_pure (done_ i hit sn fun j a b => ?_)
      have := List.filter_eq_nil_iff.mp hr.symm j (List.mem_range'_1.mpr ⟨a, by omega⟩)
      simpa using this
/-- a key's hash -/
theorem hashM (hu : A.units < cLine) {m : MEnt} {u : Value} (h : mIs m u) (t : TupOk P wo s.heap m) {Q : Int → Shared → Prop} (q : ∀ tk, Q (mH wo (mK m)) { s with toks := tk }) : wpAny (model P wo) A (pyHash u) Q E s := by
  cases m with
  | inl k => exact (mixKind P wo).pyHash h (q _)
  | inr p =>
    have h : u = .ref p.2 := h
    subst h
    exact (tupleKind (mixKind P wo)).pyHash hu t (q _)
theorem Paired.app {α β : Type} {F : α → β → Prop} {x : α} {y : β} : ∀ {l : List α} {m : List β}, Paired F l m → F x y → Paired F (l ++ [x]) (m ++ [y])
  | _, _, .nil, h => .cons h .nil
  | _, _, .cons a t, h => .cons a (Paired.app t h)
/-- the dict takes a new key -/
theorem push_mx {d : Addr} {u v : Value} {m : MEnt} {z : V} {L : List (MEnt × V)} (mx : MxAt wo d L s.heap) (hm : mIs m u) (rz : RelV z v) (no : ∀ p ∈ L, mK p.1 ≠ mK m) (hl : L.length < sizeLine) {Q : Unit → Shared → Prop}
    (q : ∀ h', MxAt wo d (L ++ [(m, z)]) h' → Heap.SameBut d s.heap h' → Q () { s with heap := h' }) : wpAny (model P wo) A (updateDictKeys d (·.push ⟨mH wo (mK m), u, v⟩) (keyPart u)) Q E s := by
  obtain ⟨hz, hd, o, es, ep, ho, hx, hdat, pr, nd⟩ := mx
  have sz : es.size = L.length := by rw [← Array.length_toList]; exact (Paired.length pr).symm
  refine wpAny_updateDictKeys (hz := by omega) ho hdat (q _ ⟨by simp; omega, hd, _, _, ep + 1, Heap.get?_update_self _ ho (Obj.isFreed_of_dict (Obj.data_mapDictKeys hdat _)), hx.mapDictKeys _, Obj.data_mapDictKeys hdat _, ?_, ?_⟩ (Heap.SameBut.update ..))
  · rw [Array.toList_push]
    exact Paired.app pr ⟨hm, rfl, rz⟩
  · rw [List.map_append, List.nodup_append]
    refine ⟨nd, by simp, fun x hx y hy => ?_⟩
    obtain ⟨p, hp, rfl⟩ := List.mem_map.mp hx
    obtain rfl : y = mK m := by simpa using hy
    exact no p hp
theorem tups_kept {d : Addr} {L : List (MEnt × V)} {h h' : Heap} {m : MEnt} (mx : MxAt wo d L h) (sb : Heap.SameBut d h h') (t : TupOk P wo h m) : TupOk P wo h' m := by
  obtain ⟨hz, hd, o, es, ep, ho, hx, hdat, pr, nd⟩ := mx
  cases m with
  | inl k => trivial
  | inr p => exact (tupleKind (mixKind P wo)).keeps t ho hdat sb
/-- d.setdefault(k, v) -/
theorem setd_mx {d : Addr} {u v : Value} {m : MEnt} {z : V} {L : List (MEnt × V)} (hu : A.units < cLine) (mx : MxAt wo d L s.heap) (hm : mIs m u) (tm : TupOk P wo s.heap m) (tL : ∀ p ∈ L, TupOk P wo s.heap p.1) (rz : RelV z v) (hl : L.length < sizeLine)
    (ns : (∃ x t, u = .str x t) → ∃ p ∈ L, ∃ q, p.1 = .inr q) {Q : Value → Shared → Prop}
    (yes : ∀ p ∈ L, mK p.1 = mK m → ∀ y tk, RelV p.2 y → Q y { s with toks := tk })
    (no : (∀ p ∈ L, mK p.1 ≠ mK m) → ∀ h' tk, MxAt wo d (L ++ [(m, z)]) h' → Heap.SameBut d s.heap h' → Q v { s with heap := h', toks := tk }) : wpAny (model P wo) A (dictSetDefault d u v) Q E s := by
  have mx0 := mx
  obtain ⟨hz, hd, o, es, ep, ho, hx, hdat, pr, nd⟩ := mx0
  unfold dictSetDefault
  refine wpAny_holding (wpAny_bind (hashM hu hm tm fun tk => wpAny_bind (find_mx (s := { s with toks := tk }) hu hm tm tL ho hdat pr nd ns (fun h => ?_) fun j p h1 h2 => ?_)))
  · refine wpAny_bind (wpAny_rule (wpAny_bind ?_))
    refine push_mx (s := { s with toks := tk }) mx hm rz h hl fun h' a b => ?_
    exact wpAny_pure (no h h' tk a b)
  · refine wpAny_bind (wpAny_dictEntries (s := { s with toks := tk }) ho hdat ?_)
    have hj : j < es.size := by
      rw [← Array.length_toList, ← Paired.length pr]
      exact (List.getElem?_eq_some_iff.mp h1).1
    obtain ⟨p', e1, e2⟩ := Paired.at_ pr (j := j) (y := es[j]) (by rw [Array.getElem?_toList, Array.getElem?_eq_getElem hj])
    rw [h1] at e1
    cases e1
    rw [Array.getElem?_eq_getElem hj]
    exact wpAny_bind (wpAny_rule (wpAny_pure (yes p (List.mem_of_getElem? h1) h2 _ tk e2.2.2)))
theorem typeIs_mx {d : Addr} {L : List (MEnt × V)} (mx : MxAt wo d L s.heap) : s.TypeIs (.ref d) "dict" := by
  obtain ⟨hz, hd, o, es, ep, ho, hx, hdat, pr, nd⟩ := mx
  exact ⟨o, ho, hx.1⟩
/-- d[k] = v, k not yet there -/
theorem put_mx {d : Addr} {u v : Value} {m : MEnt} {z : V} {L : List (MEnt × V)} (hu : A.units < cLine) (mx : MxAt wo d L s.heap) (hm : mIs m u) (tm : TupOk P wo s.heap m) (tL : ∀ p ∈ L, TupOk P wo s.heap p.1) (rz : RelV z v) (hl : L.length < sizeLine)
    (ns : (∃ x t, u = .str x t) → ∃ p ∈ L, ∃ q, p.1 = .inr q) (no : ∀ p ∈ L, mK p.1 ≠ mK m) {Q : Unit → Shared → Prop}
    (q : ∀ h' tk, MxAt wo d (L ++ [(m, z)]) h' → Heap.SameBut d s.heap h' → Q () { s with heap := h', toks := tk }) : wpAny (model P wo) A (dictSet d u v) Q E s := by
  have mx0 := mx
  obtain ⟨hz, hd, o, es, ep, ho, hx, hdat, pr, nd⟩ := mx0
  unfold dictSet
  refine wpAny_holding (wpAny_bind (hashM hu hm tm fun tk => ?_))
  unfold dictSetHashed
  refine wpAny_holding (wpAny_bind (find_mx (s := { s with toks := tk }) hu hm tm tL ho hdat pr nd ns (fun h => ?_) fun j p h1 h2 => ?_))
  · refine wpAny_bind (wpAny_rule (push_mx (s := { s with toks := tk }) mx hm rz h hl fun h' a b => q h' tk a b))
  · exact absurd h2 (no p (List.mem_of_getElem? h1))
theorem meets_setd_mx (d : Addr) (u v : Value) : MeetsIn P wo (Builtin.«dict.setdefault» ⟨[.ref d, u, v], []⟩) (fun A R s => A.units + 1 < cLine ∧ ∃ m z L, MxAt wo d L s.heap ∧ mIs m u ∧ TupOk P wo s.heap m ∧ (∀ p ∈ L, TupOk P wo s.heap p.1) ∧ RelV z v ∧ L.length < sizeLine ∧
    ((∃ x t, u = .str x t) → ∃ p ∈ L, ∃ q, p.1 = .inr q) ∧ (∀ p ∈ L, mK p.1 = mK m → ∀ y tk, RelV p.2 y → R (.ok (.ret y)) { s with toks := tk }) ∧
    ((∀ p ∈ L, mK p.1 ≠ mK m) → ∀ h' tk, MxAt wo d (L ++ [(m, z)]) h' → Heap.SameBut d s.heap h' → R (.ok (.ret v)) { s with heap := h', toks := tk })) :=
  .of_wp fun A R s ⟨hu, m, z, L, mx, hm, tm, tL, rz, hl, ns, yes, no⟩ => by
    have hd := mx.2.1
    unfold Builtin.«dict.setdefault»
    refine wpAny_bind ?_
    unfold Builtin.Dict.keyAndDefault
    refine wpAny_bind (wpAny_notOrdered_dict (typeIs_mx mx) ?_)
    show wpAny _ _ (pure (d, u, some v)) _ _ s
    refine wpAny_pure ?_
    show wpAny _ _ (if (d == sysModules) = true then _ else (dictSetDefault d u v >>= _)) _ _ s
    rw [if_neg (by rw [hd]; exact Bool.false_ne_true)]
    exact wpAny_bind (setd_mx hu mx hm tm tL rz hl ns (fun p hp e y tk r => wpAny_pure ⟨y, rfl, yes p hp e y tk r⟩) fun hn h' tk a b => wpAny_pure ⟨v, rfl, no hn h' tk a b⟩)
theorem call_setd_mx {d : Addr} {u v : Value} {m : MEnt} {z : V} {L : List (MEnt × V)} (hu : A.units + 1 < cLine) (mx : MxAt wo d L s.heap) (hm : mIs m u) (tm : TupOk P wo s.heap m) (tL : ∀ p ∈ L, TupOk P wo s.heap p.1) (rz : RelV z v) (hl : L.length < sizeLine)
    (ns : (∃ x t, u = .str x t) → ∃ p ∈ L, ∃ q, p.1 = .inr q) {Q : Value → Shared → Prop}
    (yes : ∀ p ∈ L, mK p.1 = mK m → ∀ y tk, RelV p.2 y → Q y { s with toks := tk })
    (no : (∀ p ∈ L, mK p.1 ≠ mK m) → ∀ h' tk, MxAt wo d (L ++ [(m, z)]) h' → Heap.SameBut d s.heap h' → Q v { s with heap := h', toks := tk }) :
    wpAny (model P wo) A (call (.builtin "dict.setdefault") [.ref d, u, v]) Q E s :=
  call_meetsIn PySem.F.slot_dict_setdefault (typeIs_mx mx) PySem.F.entry_dict_setdefault (PySem.F.args_dict_setdefault_3 _ _ _) (meets_setd_mx d u v) ⟨hu, m, z, L, mx, hm, tm, tL, rz, hl, ns, yes, no⟩
/-! ### a display -/
def EntV (p : MEnt × V) (q : Value × Value) : Prop := mIs p.1 q.1 ∧ RelV p.2 q.2
theorem store_mx {d : Addr} (hu : A.units < cLine) : ∀ (vs : List (Value × Value)) (ps acc : List (MEnt × V)) (s : Shared) (Q : PUnit → Shared → Prop), Paired EntV ps vs → (∀ p ∈ acc ++ ps, TupOk P wo s.heap p.1) → ((acc ++ ps).map fun p => mK p.1).Nodup →
    MxAt wo d acc s.heap → acc.length + ps.length < sizeLine → ((∃ p ∈ acc, ∃ q, p.1 = .inr q) ∨ ∃ q v r, ps = (.inr q, v) :: r) → (∀ h' tk, MxAt wo d (acc ++ ps) h' → Heap.SameBut d s.heap h' → Q PUnit.unit { s with heap := h', toks := tk }) →
    wpAny (model P wo) A (forIn vs PUnit.unit fun (x : Value × Value) (_ : PUnit) => (do dictSet d x.1 x.2; pure (ForInStep.yield PUnit.unit) : Sem (ForInStep PUnit))) Q E s
  | [], _, acc, s, Q, .nil, _, _, mx, _, _, q => by
    rw [List.forIn_nil]
    exact wpAny_pure (q s.heap s.toks (by rw [List.append_nil]; exact mx) (Heap.SameBut.refl _ _))
  | (u, v) :: vs, _, acc, s, Q, .cons (a := (m, z)) (l₁ := ps) hd tl, ts, nd, mx, sz, so, q => by
    rw [List.length_cons] at sz
    rw [List.forIn_cons]
    have mid : acc ++ (m, z) :: ps = (acc ++ [(m, z)]) ++ ps := by simp
    refine wpAny_bind (wpAny_bind (put_mx hu mx hd.1 (ts (m, z) (by simp)) (fun p hp => ts p (List.mem_append_left _ hp)) hd.2 (by omega) (fun ⟨x, t, e⟩ => ?_) (fun p hp e => ?_) fun h1 tk mx1 sb1 => wpAny_pure ?_))
    · rcases so with so | ⟨k, v', r, e2⟩
      · exact so
      · cases e2
        have h1 : u = .ref k.2 := hd.1
        have e : u = .str x t := e
        rw [h1] at e
        cases e
    · rw [List.map_append, List.nodup_append] at nd
      exact nd.2.2 _ (List.mem_map.mpr ⟨p, hp, rfl⟩) _ (by simp) e
    · refine store_mx hu vs ps (acc ++ [(m, z)]) _ Q tl (fun p hp => tups_kept mx sb1 (ts p (by rw [mid]; exact hp))) (by rw [← mid]; exact nd) mx1 (by simp; omega) ?_ fun h2 tk2 mx2 sb2 => q h2 tk2 (by rw [mid]; exact mx2) (sb1.trans sb2)
      left
      rcases so with ⟨p, hp, e⟩ | ⟨k, v', r, e2⟩
      · exact ⟨p, List.mem_append_left _ hp, e⟩
      · cases e2
        exact ⟨_, List.mem_append_right _ (List.mem_singleton.mpr rfl), k, rfl⟩
theorem disp_mx {env : Env} {keys : List (Option Expr)} {values : List Expr} {pos : Pos} {Q : Value → Shared → Prop} (hu : A.units < cLine) (ks : keys.all (·.isSome) = true) (len : keys.length = values.length) (ne : keys ≠ []) (few : keys.length ≤ 15)
    (h : wpAny (model P wo) A (evalPairs (pairTrees keys values env pos)) (fun vs s1 => ∃ ps, Paired EntV ps vs ∧ (∀ p ∈ ps, TupOk P wo s1.heap p.1) ∧ (ps.map fun p => mK p.1).Nodup ∧ MxAt wo s.heap.objs.size [] s1.heap ∧ (∃ q v r, ps = (.inr q, v) :: r) ∧
      ∀ g tk, MxAt wo s.heap.objs.size ps g → Heap.SameBut s.heap.objs.size s1.heap g → Q (.ref s.heap.objs.size) { s1 with heap := g, toks := tk }) E
      { s with heap := s.heap.push { cls := .type "dict", data := .dict #[] } }) : wpAny (model P wo) A (eval (.Dict keys values pos) env) Q E s := by
  have hn := pairTrees_length keys values env pos ks len
  have h0 : pairTrees keys values env pos ≠ [] := fun z => ne (List.length_eq_zero_iff.mp (by rw [← hn, z]; rfl))
  rw [arm_eval_Dict, zip_pairTrees keys values env pos ks len, dictDisplay_pairs _ h0 (by omega)]
  refine wpAny_bind (wpAny_standAt (wpAny_bind ?_))
  unfold subDict
  refine wpAny_bind (wpAny_alloc (wpAny_bind (wpAny_holding ?_)))
  rw [if_pos (by omega)]
  refine wpAny_bind (wpAny_mono (wpAny_evalPairs_len h) (fun vs s1 ⟨hl, ps, pr, tu, nd, mx, so, q⟩ => ?_) fun _ _ e => e)
  refine wpAny_holding (wpAny_bind (store_mx hu vs ps [] s1 _ pr tu nd mx ?_ (.inr so) fun g tk mx2 sb => wpAny_pure (wpAny_pure (wpAny_pure (q g tk mx2 sb)))))
  have e := Paired.length pr
  rw [sizeLine_eq]
  simp
  omega
end
end Lt
namespace Lt
open PySem L2 PySem.Spec PyProof.Rows
/-- the keys of such a dict, locked, in their order -/
def Itm (wo : World) (d : Addr) (o : Obj) (L : List (MEnt × V)) : It :=
  ⟨fun i H => i < L.length ∧ H d = some (.frz o (mxO wo d L)), fun i H x H' => H' = H ∧ ∃ m v, L[i]? = some (m, v) ∧ x = mV m, fun i H => L.length ≤ i ∧ H d = some (.frz o (mxO wo d L))⟩
theorem mV_rel {m : MEnt} {u : Value} (h : mIs m u) : RelV (mV m) u := by
  rcases mIs_shape h with ⟨i, t, rfl, rfl⟩ | ⟨x, t, rfl, rfl⟩ | ⟨ks, b, rfl, rfl⟩
  · exact ⟨t, rfl⟩
  · exact ⟨t, rfl⟩
  · rfl
section
variable {P : Program} {w wo : World} {K : PySem.W.Frag} {tg e : Expr} {d : Addr} {o : Obj} {es : Array DictEntry} {ep : Nat} {X : Cx} {pins : List (Addr × Obj)} {σ : L2.St} {H : Hp} {s : Shared} {td : TE}
theorem frzM {L : List (MEnt × V)} (I : Inv X pins σ H s) (h : H d = some (.frz o (mxO wo d L))) :
    (d == sysModules) = false ∧ s.heap.get? d = some o ∧ o.ExactDict ∧ ∃ es ep, o.data = .dict es ep ∧ es.size = L.length ∧ ∀ (i : Nat) (m : MEnt) (v : V), L[i]? = some (m, v) → ∃ en, es[i]? = some en ∧ mIs m en.key := by
  obtain ⟨at_, q⟩ := I.hok d _ h
  obtain ⟨_, hs, o', es, ep, ho, hx, hdat, pr, _⟩ := mx_at (P := X.prog) q
  rw [at_] at ho
  cases ho
  have hsz : es.size = L.length := by rw [← Array.length_toList, ← Paired.length pr]
  refine ⟨hs, at_, hx, es, ep, hdat, hsz, fun i m v hi => ?_⟩
  have lt : i < es.size := by rw [hsz]; exact (List.getElem?_eq_some_iff.mp hi).1
  obtain ⟨p, h1, h2⟩ := Paired.at_ pr (j := i) (y := es[i]) (by rw [Array.getElem?_toList, Array.getElem?_eq_getElem lt])
  rw [hi] at h1
  cases h1
  exact ⟨es[i], Array.getElem?_eq_getElem lt, h2.1⟩
theorem turnM {L : List (MEnt × V)} (it : Addr) (hod : o.data = .dict es ep) : Turn P w K tg (Itm wo d o L) [it] it (fun i h => h.IsKeyIter it d i L.length ep) where
  mem := List.mem_singleton.mpr rfl
  obj := fun i h st b hb => by
    obtain rfl : b = it := List.mem_singleton.mp hb
    obtain ⟨q, e, _, dd⟩ := st
    exact ⟨q, e, fun v z => by rw [dd] at z; cases z⟩
  keep := fun i h h' st k => st.at fun q e => k it (List.mem_singleton.mpr rfl) q e
  item := by
    intro X hP hw hK hc i pins s σ H E I hf st hg
    subst hP hw hK
    obtain ⟨g0, g1, g2, g3, g4, g5⟩ := hf it (List.mem_singleton.mpr rfl)
    obtain ⟨hi, hd⟩ := hg
    obtain ⟨hs, at_, hx, es2, ep2, hdt, hsz, ent⟩ := frzM I hd
    obtain ⟨rfl, rfl⟩ := dict_ep hod hdt
    obtain ⟨⟨m, v⟩, hm⟩ : ∃ p, L[i]? = some p := ⟨L[i], List.getElem?_eq_getElem hi⟩
    obtain ⟨en, hen, hkey⟩ := ent i m v hm
    refine next_key_item st at_ hdt hsz hen fun h2 st2 sb => ?_
    have I2 : Inv X pins σ H { s with heap := h2 } := I.turned (t' := s.toks) (fun b q hb e => (sb.2 b hb).trans e) g0 g1 g3 g4 g5
    obtain ⟨q, e, c, dd⟩ := id st2
    exact ⟨en.key, rfl, go_of (s := { s with heap := h2 }) e c dd (by decide) ⟨mV m, H, I2, mV_rel hkey, ⟨rfl, m, v, hm, rfl⟩, st2, fun b hb => (hf b hb).1⟩⟩
  done := by
    intro X hP hw hK hc i pins s σ H E I hf st hg
    subst hP hw hK
    obtain ⟨g0, g1, g2, g3, g4, g5⟩ := hf it (List.mem_singleton.mpr rfl)
    obtain ⟨hi, hd⟩ := hg
    obtain ⟨hs, at_, hx, es2, ep2, hdt, hsz, ent⟩ := frzM I hd
    obtain ⟨rfl, rfl⟩ := dict_ep hod hdt
    exact next_key_end (I.ok.hd hc) st at_ hdt hsz hi fun h2 eb => ⟨rfl, I.turned (t' := s.toks) (fun b q hb e => eb b q hb e) g0 g1 g3 g4 g5⟩
  self := fun A i s Q E st h => by
    refine wpAny_pyIter_slot st.typeIs PySem.F.slot_dict_keyiterator_iter (wpAny_call_entry PySem.F.slot_dict_keyiterator_iter st.typeIs PySem.F.entry_dict_keyiterator_iter ?_ (PySem.F.args_dict_keyiterator_iter_1 _))
    exact wpAny_pure ⟨_, rfl, "dict_keyiterator", _, st.typeIs, PySem.F.slot_dict_keyiterator_next.lookup, h⟩
/-- the dict is locked -/
def iKeyX (td : TE) : TI := fun σ H R => td σ H fun x H1 => ∃ d o, x = .ref d ∧ ((∃ kvs, H1 d = some (.frz o (.dK kvs)) ∧ R (Itk d o kvs) H1) ∨ (∃ kvs, H1 d = some (.frz o (.dT kvs)) ∧ R (Itkt d o kvs) H1) ∨ ∃ wo L, H1 d = some (.frz o (mxO wo d L)) ∧ R (Itm wo d o L) H1)
theorem pi_keyX (he : PE X e td) : PI X tg e (iKeyX td) := by
  refine ⟨fun pins s σ H R I h => ?_⟩
  refine thn (he.run pins s σ H _ I h) fun u s1 ⟨x, H1, I1, rx, d, o, ex, q⟩ => ?_
  subst ex
  have rx : u = Value.ref d := rx
  subst rx
  rcases q with ⟨L, hd, q⟩ | ⟨L, hd, q⟩ | ⟨wo, L, hd, q⟩
  · obtain ⟨hs, at_, hx, es, ep, vs, hdt, hsz, _, _⟩ := I1.frzK hd
    refine iter_keys hs at_ hx hdt (pi_one I1 (tk := s1.toks) _ (turn_keys _ hdt) ⟨_, Heap.get?_push_size _ rfl, rfl, ?_⟩ q)
    rw [hsz] <;> rfl
  · obtain ⟨hs, at_, hx, es, ep, hdt, hsz, _⟩ := I1.frzT hd
    refine iter_keys hs at_ hx hdt (pi_one I1 (tk := s1.toks) _ (turn_keysT _ hdt) ⟨_, Heap.get?_push_size _ rfl, rfl, ?_⟩ q)
    rw [hsz] <;> rfl
  · obtain ⟨hs, at_, hx, es, ep, hdt, hsz, _⟩ := frzM I1 hd
    refine iter_keys hs at_ hx hdt (pi_one I1 (tk := s1.toks) _ (turnM _ hdt) ⟨_, Heap.get?_push_size _ rfl, rfl, ?_⟩ q)
    rw [hsz] <;> rfl
end
end Lt
namespace Lt
open PySem L2
/-- where the program's things stand; the world -/
structure AMap where
  at_ : Str → Option Addr
  wo : World
instance : CoeFun AMap fun _ => Str → Option Addr := ⟨AMap.at_⟩
/-- where the store's places lie; the addresses of what is handed on as a value -/
structure Wd where
  ph : List Addr
  Fz : Addr → Prop
def kD : Key → D
  | .inl i => .int i
  | .inr x => .str x
/-- a key of either kind, as data -/
def mD : MEnt → D
  | .inl k => kD k
  | .inr p => .tup (p.1.map kD)
def TupR (H : Hp) : MEnt → Prop
  | .inl _ => True
  | .inr p => Rd H p.2 (.tup (p.1.map kV))
mutual
def Rep (G : AMap) (H : Hp) (w : Wd) : D → V → Prop
  | .non, v => v = .non
  | .bl b, v => v = .bl b
  | .int i, v => v = .int i
  | .str x, v => v = .str x
  | .fn f, v => ∃ a, v = .ref a ∧ G f = some a
  | .tup xs, v => ∃ a us, v = .ref a ∧ Rd H a (.tup us) ∧ Reps G H w xs us
  | .vl xs, v => ∃ a us, v = .ref a ∧ w.Fz a ∧ Rd H a (.lst us) ∧ Reps G H w xs us
  | .vd kvs, v => ∃ a, v = .ref a ∧ w.Fz a ∧ ((∃ L, Rd H a (.dT L) ∧ RepT G H w kvs L) ∨ (∃ L, Rd H a (.dK L) ∧ RepK G H w kvs L) ∨ ∃ L, Rd H a (mxO G.wo a L) ∧ mixd kvs = true ∧ RepM G H w kvs L)
  | .loc l, v => ∃ a, v = .ref a ∧ w.ph[l]? = some a
def Reps (G : AMap) (H : Hp) (w : Wd) : List D → List V → Prop
  | [], us => us = []
  | x :: xs, us => ∃ u r, us = u :: r ∧ Rep G H w x u ∧ Reps G H w xs r
def RepT (G : AMap) (H : Hp) (w : Wd) : List (D × D) → List (List Key × V) → Prop
  | [], L => L = []
  | (k, d) :: r, L => ∃ ks u L', L = (ks, u) :: L' ∧ k = .tup (ks.map kD) ∧ Rep G H w d u ∧ RepT G H w r L'
def RepK (G : AMap) (H : Hp) (w : Wd) : List (D × D) → List (Key × V) → Prop
  | [], L => L = []
  | (k, d) :: r, L => ∃ ks u L', L = (ks, u) :: L' ∧ k = kD ks ∧ Rep G H w d u ∧ RepK G H w r L'
def RepM (G : AMap) (H : Hp) (w : Wd) : List (D × D) → List (MEnt × V) → Prop
  | [], L => L = []
  | (k, d) :: r, L => ∃ m u L', L = (m, u) :: L' ∧ k = mD m ∧ TupR H m ∧ Rep G H w d u ∧ RepM G H w r L'
end
def RepF (G : AMap) (H : Hp) (w : Wd) : List (Str × D) → List (Str × V) → Prop
  | [], gs => gs = []
  | (f, d) :: r, gs => ∃ u gs', gs = (f, u) :: gs' ∧ Rep G H w d u ∧ RepF G H w r gs'
def DicR (G : AMap) (H : Hp) (w : Wd) (kvs : List (D × D)) (a : Addr) (f : HO → Prop) : Prop := (∃ L, f (.dT L) ∧ RepT G H w kvs L) ∨ (∃ L, f (.dK L) ∧ RepK G H w kvs L) ∨ ∃ L, f (mxO G.wo a L) ∧ mixd kvs = true ∧ RepM G H w kvs L
def ObR (G : AMap) (H : Hp) (w : Wd) : Ob → Addr → Prop
  | .lst xs, a => ∃ us, H a = some (.lst us) ∧ Reps G H w xs us
  | .dct kvs, a => DicR G H w kvs a fun u => H a = some u
  | .fdct kvs, a => DicR G H w kvs a fun u => ∃ o, H a = some (.frz o u)
  | .ins c fs, a => ∃ C dx gs, G c = some C ∧ H a = some (.ins C dx gs) ∧ RepF G H w fs gs
structure StoR (G : AMap) (w : Wd) (S : Sto) (H : Hp) : Prop where
  len : w.ph.length = S.length
  nd : w.ph.Nodup
  ob : ∀ (l : Nat) a, w.ph[l]? = some a → ∃ o, S[l]? = some o ∧ ObR G H w o a
  ap : ∀ a, w.Fz a → a ∉ w.ph
  fz : ∀ a, w.Fz a → H a ≠ none
  /-- the tuples that are known to the object are the module's own -/
  fr : ∀ a o us, H a = some (.frz o (.tup us)) → us = [.str (Str.ofString "drawer")] ∨ us = [.str (Str.ofString "gone")]
  gd : ∀ a, G (Str.ofString "DRAWER") = some a → ∃ o, H a = some (.frz o (.tup [.str (Str.ofString "drawer")]))
  gg : ∀ a, G (Str.ofString "GONE") = some a → ∃ o, H a = some (.frz o (.tup [.str (Str.ofString "gone")]))
def NoFt (o : HO) : Prop := ∀ x us, o ≠ .frz x (.tup us)
theorem fr_upd {H : Hp} {p : Addr} {o : HO} (hn : NoFt o) (h : ∀ a x us, H a = some (.frz x (.tup us)) → us = [.str (Str.ofString "drawer")] ∨ us = [.str (Str.ofString "gone")]) :
    ∀ a x us, L2.upd H p o a = some (.frz x (.tup us)) → us = [.str (Str.ofString "drawer")] ∨ us = [.str (Str.ofString "gone")] := fun a x us e => by
  by_cases z : a = p
  · rw [z, upd_same] at e
    exact absurd (Option.some.inj e) (hn x us)
  · rw [upd_ne z] at e
    exact h a x us e
structure SlR (G : AMap) (H : Hp) (w : Wd) (σD : Slots) (σ : St) : Prop where
  at_ : ∀ (i : Nat) d, σD[i]? = some (some d) → ∃ v, σ[i]? = some (some v) ∧ Rep G H w d v
  le : σD.length ≤ σ.length
def NoFz (x : HO) : Prop := ∀ o y, x ≠ .frz o y
/-- as it was, or locked since -/
def FzEq (x y : Option HO) : Prop := y = x ∨ ∃ o u, x = some u ∧ NoFz u ∧ y = some (.frz o u)
theorem FzEq.trans {x y z : Option HO} (a : FzEq x y) (b : FzEq y z) : FzEq x z := by
  rcases a with a | ⟨o, u, e, n, a⟩
  · rw [← a]; exact b
  · rcases b with b | ⟨o', u', e', n', b⟩
    · exact .inr ⟨o, u, e, n, b.trans a⟩
    · rw [a] at e'
      exact absurd (Option.some.inj e').symm (n' _ _)
theorem FzEq.some {x : HO} {y : Option HO} (a : FzEq (some x) y) : y ≠ none := by
  rcases a with a | ⟨o, u, e, n, a⟩ <;> rw [a] <;> simp
/-- what a run keeps -/
structure Ext (H : Hp) (w : Wd) (H' : Hp) (w' : Wd) : Prop where
  tup : ∀ a us, H a = some (.tup us) → H' a = some (.tup us)
  frz : ∀ a o u, H a = some (.frz o u) → H' a = some (.frz o u)
  fz : ∀ a, w.Fz a → w'.Fz a ∧ FzEq (H a) (H' a)
  ph : ∀ (l : Nat) a, w.ph[l]? = some a → w'.ph[l]? = some a
  /-- nothing but the places is changed -/
  keep : ∀ a o, H a = some o → a ∉ w.ph → ¬ w.Fz a → H' a = some o
  newP : ∀ a, a ∈ w'.ph → a ∈ w.ph ∨ H a = none
  newF : ∀ a, w'.Fz a → w.Fz a ∨ (a ∉ w.ph ∧ H a = none)
theorem Ext.refl (H : Hp) (w : Wd) : Ext H w H w := ⟨fun _ _ h => h, fun _ _ _ h => h, fun _ h => ⟨h, .inl rfl⟩, fun _ _ h => h, fun _ _ h _ _ => h, fun _ h => .inl h, fun _ h => .inl h⟩
theorem Ext.mem {H H1 : Hp} {w w1 : Wd} (e : Ext H w H1 w1) {a : Addr} (h : a ∈ w.ph) : a ∈ w1.ph := by
  obtain ⟨l, q⟩ := List.mem_iff_getElem?.mp h
  exact List.mem_of_getElem? (e.ph l a q)
theorem Ext.gone {H H1 : Hp} {w w1 : Wd} (e : Ext H w H1 w1) {a : Addr} (h : H1 a = none) (hp : a ∉ w.ph) : H a = none := by
  cases q : H a with
  | none => rfl
  | some o =>
    by_cases f : w.Fz a
    · have := (e.fz a f).2
      rw [q] at this
      exact absurd h this.some
    · rw [e.keep a o q hp f] at h; cases h
theorem Ext.trans {H H1 H2 : Hp} {w w1 w2 : Wd} (a : Ext H w H1 w1) (b : Ext H1 w1 H2 w2) : Ext H w H2 w2 where
  tup := fun c us h => b.tup c us (a.tup c us h)
  frz := fun c o u h => b.frz c o u (a.frz c o u h)
  fz := fun c h => ⟨(b.fz c (a.fz c h).1).1, (a.fz c h).2.trans (b.fz c (a.fz c h).1).2⟩
  ph := fun l c h => b.ph l c (a.ph l c h)
  keep := fun c o h n f => b.keep c o (a.keep c o h n f) (fun m => (a.newP c m).elim n fun z => by rw [h] at z; cases z) fun m => (a.newF c m).elim f fun z => by rw [h] at z; cases z.2
  newP := fun c m => by
    rcases b.newP c m with h | h
    · exact a.newP c h
    · by_cases z : c ∈ w.ph
      · exact .inl z
      · exact .inr (a.gone h z)
  newF := fun c m => by
    rcases b.newF c m with h | ⟨h1, h⟩
    · exact a.newF c h
    · have z : c ∉ w.ph := fun z => h1 (a.mem z)
      exact .inr ⟨z, a.gone h z⟩
section
variable {G : AMap} {H H' : Hp} {w w' : Wd}
theorem Ext.rdT (e : Ext H w H' w') {a : Addr} {us : List V} (h : Rd H a (.tup us)) : Rd H' a (.tup us) := by
  rcases h with h | ⟨o, h⟩
  · exact .inl (e.tup _ _ h)
  · exact .inr ⟨o, e.frz _ _ _ h⟩
theorem Ext.rdF (e : Ext H w H' w') {a : Addr} {u : HO} (n : NoFz u) (f : w.Fz a) (h : Rd H a u) : Rd H' a u := by
  have q := (e.fz a f).2
  unfold Rd at h ⊢
  rcases q with q | ⟨o, u', e1, n', q⟩
  · rw [q]; exact h
  · rcases h with h | ⟨o', h⟩ <;> rw [e1] at h <;> cases h
    · exact .inr ⟨o, q⟩
    · exact absurd rfl (n' _ _)
theorem mx_nf (wo : World) (a : Addr) (L : List (MEnt × V)) : NoFz (mxO wo a L) := fun _ _ z => by cases z
theorem TupR.mono (e : Ext H w H' w') {m : MEnt} (h : TupR H m) : TupR H' m := by
  cases m with
  | inl k => trivial
  | inr p => exact e.rdT h
mutual
theorem Rep.mono (e : Ext H w H' w') : ∀ (d : D) (v : V), Rep G H w d v → Rep G H' w' d v
  | .non, _, h => h
  | .bl _, _, h => h
  | .int _, _, h => h
  | .str _, _, h => h
  | .fn _, _, h => h
  | .tup xs, v, ⟨a, us, e1, r, q⟩ => ⟨a, us, e1, e.rdT r, Reps.mono e xs us q⟩
  | .vl xs, v, ⟨a, us, e1, f, r, q⟩ => ⟨a, us, e1, (e.fz a f).1, e.rdF (fun _ _ z => by cases z) f r, Reps.mono e xs us q⟩
  | .vd kvs, v, ⟨a, e1, f, q⟩ => ⟨a, e1, (e.fz a f).1, q.elim (fun ⟨L, r, t⟩ => .inl ⟨L, e.rdF (fun _ _ z => by cases z) f r, RepT.mono e kvs L t⟩) fun q => .inr (q.elim (fun ⟨L, r, t⟩ => .inl ⟨L, e.rdF (fun _ _ z => by cases z) f r, RepK.mono e kvs L t⟩) fun ⟨L, r, x, t⟩ => .inr ⟨L, e.rdF (mx_nf _ _ _) f r, x, RepM.mono e kvs L t⟩)⟩
  | .loc l, v, ⟨a, e1, q⟩ => ⟨a, e1, e.ph l a q⟩
theorem Reps.mono (e : Ext H w H' w') : ∀ (xs : List D) (us : List V), Reps G H w xs us → Reps G H' w' xs us
  | [], _, h => h
  | x :: xs, _, ⟨u, r, e1, a, b⟩ => ⟨u, r, e1, Rep.mono e x u a, Reps.mono e xs r b⟩
theorem RepT.mono (e : Ext H w H' w') : ∀ (xs : List (D × D)) (L : List (List Key × V)), RepT G H w xs L → RepT G H' w' xs L
  | [], _, h => h
  | (k, d) :: xs, _, ⟨ks, u, r, e1, e2, a, b⟩ => ⟨ks, u, r, e1, e2, Rep.mono e d u a, RepT.mono e xs r b⟩
theorem RepK.mono (e : Ext H w H' w') : ∀ (xs : List (D × D)) (L : List (Key × V)), RepK G H w xs L → RepK G H' w' xs L
  | [], _, h => h
  | (k, d) :: xs, _, ⟨ks, u, r, e1, e2, a, b⟩ => ⟨ks, u, r, e1, e2, Rep.mono e d u a, RepK.mono e xs r b⟩
theorem RepM.mono (e : Ext H w H' w') : ∀ (xs : List (D × D)) (L : List (MEnt × V)), RepM G H w xs L → RepM G H' w' xs L
  | [], _, h => h
  | (k, d) :: xs, _, ⟨m, u, r, e1, e2, t, a, b⟩ => ⟨m, u, r, e1, e2, t.mono e, Rep.mono e d u a, RepM.mono e xs r b⟩
end
theorem RepF.mono (e : Ext H w H' w') : ∀ (fs : List (Str × D)) (gs : List (Str × V)), RepF G H w fs gs → RepF G H' w' fs gs
  | [], _, h => h
  | (_, d) :: fs, _, ⟨u, gs', e1, a, b⟩ => ⟨u, gs', e1, Rep.mono e d u a, RepF.mono e fs gs' b⟩
theorem SlR.mono (e : Ext H w H' w') {σD : Slots} {σ : St} (h : SlR G H w σD σ) : SlR G H' w' σD σ := ⟨fun i d q => by
  obtain ⟨v, e1, r⟩ := h.at_ i d q
  exact ⟨v, e1, Rep.mono e d v r⟩, h.le⟩
/-- an object stays, if its own address does -/
theorem ObR.mono (e : Ext H w H' w') {o : Ob} {a : Addr} (h : ObR G H w o a) (k : H' a = H a) : ObR G H' w' o a := by
  cases o with
  | lst xs =>
    obtain ⟨us, h1, h2⟩ := h
    exact ⟨us, k.trans h1, Reps.mono e _ _ h2⟩
  | dct kvs =>
    rcases h with ⟨L, h1, h2⟩ | ⟨L, h1, h2⟩ | ⟨L, h1, x, h2⟩
    · exact .inl ⟨L, k.trans h1, RepT.mono e _ _ h2⟩
    · exact .inr (.inl ⟨L, k.trans h1, RepK.mono e _ _ h2⟩)
    · exact .inr (.inr ⟨L, k.trans h1, x, RepM.mono e _ _ h2⟩)
  | fdct kvs =>
    rcases h with ⟨L, ⟨o, h1⟩, h2⟩ | ⟨L, ⟨o, h1⟩, h2⟩ | ⟨L, ⟨o, h1⟩, x, h2⟩
    · exact .inl ⟨L, ⟨o, k.trans h1⟩, RepT.mono e _ _ h2⟩
    · exact .inr (.inl ⟨L, ⟨o, k.trans h1⟩, RepK.mono e _ _ h2⟩)
    · exact .inr (.inr ⟨L, ⟨o, k.trans h1⟩, x, RepM.mono e _ _ h2⟩)
  | ins c fs =>
    obtain ⟨C, dx, gs, g, h1, h2⟩ := h
    exact ⟨C, dx, gs, g, k.trans h1, RepF.mono e _ _ h2⟩
theorem ObR.some {o : Ob} {a : Addr} (h : ObR G H w o a) : H a ≠ none := by
  cases o with
  | lst xs =>
    obtain ⟨us, h1, h2⟩ := h
    rw [h1]; simp
  | dct kvs => rcases h with ⟨L, h1, h2⟩ | ⟨L, h1, h2⟩ | ⟨L, h1, h2⟩ <;> (rw [h1]; simp)
  | fdct kvs => rcases h with ⟨L, ⟨o, h1⟩, h2⟩ | ⟨L, ⟨o, h1⟩, h2⟩ | ⟨L, ⟨o, h1⟩, h2⟩ <;> (rw [h1]; simp)
  | ins c fs =>
    obtain ⟨C, dx, gs, g, h1, h2⟩ := h
    rw [h1]; simp
theorem StoR.there {S : Sto} (h : StoR G w S H) {l : Nat} {a : Addr} (e : w.ph[l]? = some a) : H a ≠ none := by
  obtain ⟨o, _, r⟩ := h.ob l a e
  exact r.some
theorem StoR.mem {S : Sto} (h : StoR G w S H) {a : Addr} (e : a ∈ w.ph) : H a ≠ none := by
  obtain ⟨l, e⟩ := List.mem_iff_getElem?.mp e
  exact h.there e
/-- an object that no place and no value stands for is laid at a new address -/
theorem Ext.upd {S : Sto} (h : StoR G w S H) {p : Addr} {o : HO} (hp : H p = none) : Ext H w (upd H p o) w where
  tup := fun a us e => by rw [upd_ne (ne_of_none e hp)]; exact e
  frz := fun a x u e => by rw [upd_ne (ne_of_none e hp)]; exact e
  fz := fun a f => ⟨f, .inl (upd_ne (show a ≠ p from fun z => h.fz a f (z ▸ hp)))⟩
  ph := fun _ _ e => e
  keep := fun a x e _ _ => by rw [upd_ne (ne_of_none e hp)]; exact e
  newP := fun _ m => .inl m
  newF := fun _ m => .inl m
theorem StoR.upd {S : Sto} (h : StoR G w S H) {p : Addr} {o : HO} (hp : H p = none) (hn : NoFt o := by intro x us z; cases z) : StoR G w S (upd H p o) where
  len := h.len
  nd := h.nd
  ob := fun l a e => by
    obtain ⟨o', h1, h2⟩ := h.ob l a e
    exact ⟨o', h1, h2.mono (Ext.upd h hp) (upd_ne (show a ≠ p from fun z => h.there e (z ▸ hp)))⟩
  ap := h.ap
  fz := fun a f => by rw [upd_ne (show a ≠ p from fun z => h.fz a f (z ▸ hp))]; exact h.fz a f
  fr := fr_upd hn h.fr
  gd := fun a q => by
    obtain ⟨o', q⟩ := h.gd a q
    exact ⟨o', (Ext.upd h hp).frz _ _ _ q⟩
  gg := fun a q => by
    obtain ⟨o', q⟩ := h.gg a q
    exact ⟨o', (Ext.upd h hp).frz _ _ _ q⟩
/-- .. as a value -/
def Wd.froze (w : Wd) (p : Addr) : Wd := ⟨w.ph, fun a => w.Fz a ∨ a = p⟩
theorem Ext.froze {S : Sto} (h : StoR G w S H) {p : Addr} {o : HO} (hp : H p = none) : Ext H w (L2.upd H p o) (w.froze p) where
  tup := (Ext.upd h hp).tup
  frz := (Ext.upd h hp).frz
  fz := fun a f => ⟨.inl f, ((Ext.upd h hp).fz a f).2⟩
  ph := fun _ _ e => e
  keep := (Ext.upd h hp).keep
  newP := fun _ m => .inl m
  newF := fun a m => m.imp id fun z => by subst z; exact ⟨fun m => h.mem m hp, hp⟩
theorem StoR.froze {S : Sto} (h : StoR G w S H) {p : Addr} {o : HO} (hp : H p = none) (hn : NoFt o := by intro x us z; cases z) : StoR G (w.froze p) S (L2.upd H p o) where
  len := h.len
  nd := h.nd
  ob := fun l a e => by
    obtain ⟨o', h1, h2⟩ := h.ob l a e
    exact ⟨o', h1, h2.mono (Ext.froze h hp) (upd_ne (show a ≠ p from fun z => h.there e (z ▸ hp)))⟩
  ap := fun a f m => by
    rcases f with f | f
    · exact h.ap a f m
    · exact h.mem (f ▸ m) hp
  fz := fun a f => by
    rcases f with f | f
    · rw [upd_ne (show a ≠ p from fun z => h.fz a f (z ▸ hp))]; exact h.fz a f
    · rw [f, upd_same]; simp
  fr := fr_upd hn h.fr
  gd := fun a q => by
    obtain ⟨o', q⟩ := h.gd a q
    exact ⟨o', (Ext.froze h hp).frz _ _ _ q⟩
  gg := fun a q => by
    obtain ⟨o', q⟩ := h.gg a q
    exact ⟨o', (Ext.froze h hp).frz _ _ _ q⟩
/-- .. as a place of the store -/
def Wd.more (w : Wd) (p : Addr) : Wd := ⟨w.ph ++ [p], w.Fz⟩
theorem Ext.more {S : Sto} (h : StoR G w S H) {p : Addr} {o : HO} (hp : H p = none) : Ext H w (L2.upd H p o) (w.more p) where
  tup := (Ext.upd h hp).tup
  frz := (Ext.upd h hp).frz
  fz := (Ext.upd h hp).fz
  ph := fun l a e => by
    show (w.ph ++ [p])[l]? = _
    rw [List.getElem?_append_left (List.getElem?_eq_some_iff.mp e).1]
    exact e
  keep := (Ext.upd h hp).keep
  newP := fun a m => (List.mem_append.mp m).imp id fun z => by
    obtain rfl : a = p := by simpa using z
    exact hp
  newF := fun _ m => .inl m
theorem StoR.more {S : Sto} (h : StoR G w S H) {p : Addr} {o : HO} {ob : Ob} (hp : H p = none) (new : ObR G (L2.upd H p o) (w.more p) ob p) (hn : NoFt o := by intro x us z; cases z) : StoR G (w.more p) (S ++ [ob]) (L2.upd H p o) where
  len := by show (w.ph ++ [p]).length = _; rw [List.length_append, List.length_append, h.len]; rfl
  nd := by
    show (w.ph ++ [p]).Nodup
    rw [List.nodup_append]
    refine ⟨h.nd, by simp, fun a m b hb z => ?_⟩
    have : b = p := by simpa using hb
    subst this; subst z
    exact h.mem m hp
  ob := fun l a e => by
    have e : (w.ph ++ [p])[l]? = some a := e
    by_cases hl : l < w.ph.length
    · rw [List.getElem?_append_left hl] at e
      obtain ⟨o', h1, h2⟩ := h.ob l a e
      refine ⟨o', ?_, h2.mono (Ext.more h hp) (upd_ne (show a ≠ p from fun z => h.there e (z ▸ hp)))⟩
      rw [List.getElem?_append_left (by rw [← h.len]; exact hl)]
      exact h1
    · rw [List.getElem?_append_right (by omega)] at e
      have hz : l - w.ph.length = 0 := by
        have := (List.getElem?_eq_some_iff.mp e).1
        simpa using this
      rw [hz] at e
      obtain rfl : p = a := by simpa using e
      refine ⟨ob, ?_, new⟩
      rw [List.getElem?_append_right (by rw [← h.len]; omega), ← h.len, hz]
      rfl
  ap := fun a f m => by
    rcases List.mem_append.mp m with m | m
    · exact h.ap a f m
    · have : a = p := by simpa using m
      exact h.fz a f (this ▸ hp)
  fz := (h.upd hp hn).fz
  fr := fr_upd hn h.fr
  gd := fun a q => by
    obtain ⟨o', q⟩ := h.gd a q
    exact ⟨o', (Ext.more h hp).frz _ _ _ q⟩
  gg := fun a q => by
    obtain ⟨o', q⟩ := h.gg a q
    exact ⟨o', (Ext.more h hp).frz _ _ _ q⟩
/-- a place of the store is changed -/
theorem Ext.write {S : Sto} (h : StoR G w S H) {l : Nat} {p : Addr} {o : HO} (hp : w.ph[l]? = some p) (ht : ∀ us, H p ≠ some (.tup us)) (hf : ∀ x u, H p ≠ some (.frz x u)) : Ext H w (L2.upd H p o) w where
  tup := fun a us e => by rw [upd_ne (show a ≠ p from fun z => ht us (z ▸ e))]; exact e
  frz := fun a x u e => by rw [upd_ne (show a ≠ p from fun z => hf x u (z ▸ e))]; exact e
  fz := fun a f => ⟨f, .inl (upd_ne (show a ≠ p from fun z => h.ap a f (z ▸ List.mem_of_getElem? hp)))⟩
  ph := fun _ _ e => e
  keep := fun a x e n _ => by rw [upd_ne (show a ≠ p from fun z => n (z ▸ List.mem_of_getElem? hp))]; exact e
  newP := fun _ m => .inl m
  newF := fun _ m => .inl m
theorem StoR.write {S : Sto} (h : StoR G w S H) {l : Nat} {p : Addr} {o : HO} {ob : Ob} (hp : w.ph[l]? = some p) (ht : ∀ us, H p ≠ some (.tup us)) (hf : ∀ x u, H p ≠ some (.frz x u)) (new : ObR G (L2.upd H p o) w ob p) (hn : NoFt o := by intro x us z; cases z) : StoR G w (S.set l ob) (L2.upd H p o) where
  len := by rw [List.length_set]; exact h.len
  nd := h.nd
  ob := fun m a e => by
    by_cases hm : m = l
    · subst hm
      rw [hp] at e
      obtain rfl : p = a := Option.some.inj e
      have hl : m < S.length := by rw [← h.len]; exact (List.getElem?_eq_some_iff.mp hp).1
      exact ⟨ob, by rw [List.getElem?_set_self hl], new⟩
    · obtain ⟨o', h1, h2⟩ := h.ob m a e
      have hne : a ≠ p := fun z => hm (by
        subst z
        have a1 := (List.getElem?_eq_some_iff.mp e).1
        exact (List.getElem?_inj a1 h.nd).mp (e.trans hp.symm))
      exact ⟨o', by rw [List.getElem?_set_ne (Ne.symm hm)]; exact h1, h2.mono (Ext.write h hp ht hf) (upd_ne hne)⟩
  ap := h.ap
  fz := fun a f => by rw [upd_ne (show a ≠ p from fun z => h.ap a f (z ▸ List.mem_of_getElem? hp))]; exact h.fz a f
  fr := fr_upd hn h.fr
  gd := fun a q => by
    obtain ⟨o', q⟩ := h.gd a q
    exact ⟨o', (Ext.write h hp ht hf).frz _ _ _ q⟩
  gg := fun a q => by
    obtain ⟨o', q⟩ := h.gg a q
    exact ⟨o', (Ext.write h hp ht hf).frz _ _ _ q⟩
/-- an object that no place stands for, and no value, is changed -/
theorem Ext.free {p : Addr} {o o' : HO} (hp : H p = some o) (hl : p ∉ w.ph) (hF : ¬ w.Fz p) (ht : ∀ us, o ≠ .tup us) (hf : ∀ x u, o ≠ .frz x u) (H0 : Hp) (w0 : Wd) (e : Ext H0 w0 H w) (h0 : H0 p = none) : Ext H0 w0 (L2.upd H p o') w where
  tup := fun a us q => by
    have q1 := e.tup a us q
    rw [upd_ne (show a ≠ p from fun z => by rw [z, h0] at q; cases q)]; exact q1
  frz := fun a x u q => by
    have q1 := e.frz a x u q
    rw [upd_ne (show a ≠ p from fun z => by rw [z, h0] at q; cases q)]; exact q1
  fz := fun a f => ⟨(e.fz a f).1, by
    rw [upd_ne (show a ≠ p from fun z => hF (z ▸ (e.fz a f).1))]; exact (e.fz a f).2⟩
  ph := e.ph
  keep := fun a x q n f => by
    have q1 := e.keep a x q n f
    rw [upd_ne (show a ≠ p from fun z => by rw [z, h0] at q; cases q)]; exact q1
  newP := e.newP
  newF := e.newF
/-- what stands stays: only p, which nothing stands for, may change -/
structure Same (p : Addr) (H H' : Hp) : Prop where
  out : ∀ a, a ≠ p → H' a = H a
  nt : ∀ us, H p ≠ some (.tup us)
  nf : ∀ o u, H p ≠ some (.frz o u)
theorem TupR.same {p : Addr} (e : Same p H H') {m : MEnt} (h : TupR H m) : TupR H' m := by
  cases m with
  | inl k => trivial
  | inr q =>
    have : q.2 ≠ p := fun z => by
      rcases (show Rd H q.2 _ from h) with r | ⟨o, r⟩
      · exact e.nt _ (z ▸ r)
      · exact e.nf o _ (z ▸ r)
    show Rd H' q.2 _
    unfold Rd
    rw [e.out _ this]
    exact h
mutual
theorem Rep.same {p : Addr} (e : Same p H H') (hF : ¬ w.Fz p) : ∀ (d : D) (v : V), Rep G H w d v → Rep G H' w d v
  | .non, _, h => h
  | .bl _, _, h => h
  | .int _, _, h => h
  | .str _, _, h => h
  | .fn _, _, h => h
  | .tup xs, v, ⟨a, us, e1, r, q⟩ => ⟨a, us, e1, by
      have : a ≠ p := fun z => by
        rcases r with r | ⟨o, r⟩
        · exact e.nt us (z ▸ r)
        · exact e.nf o _ (z ▸ r)
      unfold Rd
      rw [e.out a this]; exact r, Reps.same e hF xs us q⟩
  | .vl xs, v, ⟨a, us, e1, f, r, q⟩ => ⟨a, us, e1, f, by
      unfold Rd
      rw [e.out a (fun z => hF (z ▸ f))]; exact r, Reps.same e hF xs us q⟩
  | .vd kvs, v, ⟨a, e1, f, q⟩ => ⟨a, e1, f, by
      have z : a ≠ p := fun z => hF (z ▸ f)
      unfold Rd at q ⊢
      rw [e.out a z]
      exact q.elim (fun ⟨L, r, t⟩ => .inl ⟨L, r, RepT.same e hF kvs L t⟩) fun q => .inr (q.elim (fun ⟨L, r, t⟩ => .inl ⟨L, r, RepK.same e hF kvs L t⟩) fun ⟨L, r, x, t⟩ => .inr ⟨L, r, x, RepM.same e hF kvs L t⟩)⟩
  | .loc l, v, h => h
theorem Reps.same {p : Addr} (e : Same p H H') (hF : ¬ w.Fz p) : ∀ (xs : List D) (us : List V), Reps G H w xs us → Reps G H' w xs us
  | [], _, h => h
  | x :: xs, _, ⟨u, r, e1, a, b⟩ => ⟨u, r, e1, Rep.same e hF x u a, Reps.same e hF xs r b⟩
theorem RepT.same {p : Addr} (e : Same p H H') (hF : ¬ w.Fz p) : ∀ (xs : List (D × D)) (L : List (List Key × V)), RepT G H w xs L → RepT G H' w xs L
  | [], _, h => h
  | (k, d) :: xs, _, ⟨ks, u, r, e1, e2, a, b⟩ => ⟨ks, u, r, e1, e2, Rep.same e hF d u a, RepT.same e hF xs r b⟩
theorem RepK.same {p : Addr} (e : Same p H H') (hF : ¬ w.Fz p) : ∀ (xs : List (D × D)) (L : List (Key × V)), RepK G H w xs L → RepK G H' w xs L
  | [], _, h => h
  | (k, d) :: xs, _, ⟨ks, u, r, e1, e2, a, b⟩ => ⟨ks, u, r, e1, e2, Rep.same e hF d u a, RepK.same e hF xs r b⟩
theorem RepM.same {p : Addr} (e : Same p H H') (hF : ¬ w.Fz p) : ∀ (xs : List (D × D)) (L : List (MEnt × V)), RepM G H w xs L → RepM G H' w xs L
  | [], _, h => h
  | (k, d) :: xs, _, ⟨m, u, r, e1, e2, t, a, b⟩ => ⟨m, u, r, e1, e2, t.same e, Rep.same e hF d u a, RepM.same e hF xs r b⟩
end
theorem RepF.same {p : Addr} (e : Same p H H') (hF : ¬ w.Fz p) : ∀ (fs : List (Str × D)) (gs : List (Str × V)), RepF G H w fs gs → RepF G H' w fs gs
  | [], _, h => h
  | (_, d) :: fs, _, ⟨u, gs', e1, a, b⟩ => ⟨u, gs', e1, Rep.same e hF d u a, RepF.same e hF fs gs' b⟩
theorem ObR.same {p : Addr} (e : Same p H H') (hF : ¬ w.Fz p) {o : Ob} {a : Addr} (hne : a ≠ p) (h : ObR G H w o a) : ObR G H' w o a := by
  have k := e.out a hne
  cases o with
  | lst xs =>
    obtain ⟨us, h1, h2⟩ := h
    exact ⟨us, k.trans h1, Reps.same e hF _ _ h2⟩
  | dct kvs =>
    rcases h with ⟨L, h1, h2⟩ | ⟨L, h1, h2⟩ | ⟨L, h1, x, h2⟩
    · exact .inl ⟨L, k.trans h1, RepT.same e hF _ _ h2⟩
    · exact .inr (.inl ⟨L, k.trans h1, RepK.same e hF _ _ h2⟩)
    · exact .inr (.inr ⟨L, k.trans h1, x, RepM.same e hF _ _ h2⟩)
  | fdct kvs =>
    rcases h with ⟨L, ⟨o, h1⟩, h2⟩ | ⟨L, ⟨o, h1⟩, h2⟩ | ⟨L, ⟨o, h1⟩, x, h2⟩
    · exact .inl ⟨L, ⟨o, k.trans h1⟩, RepT.same e hF _ _ h2⟩
    · exact .inr (.inl ⟨L, ⟨o, k.trans h1⟩, RepK.same e hF _ _ h2⟩)
    · exact .inr (.inr ⟨L, ⟨o, k.trans h1⟩, x, RepM.same e hF _ _ h2⟩)
  | ins c fs =>
    obtain ⟨C, dx, gs, g, h1, h2⟩ := h
    exact ⟨C, dx, gs, g, k.trans h1, RepF.same e hF _ _ h2⟩
theorem StoR.free {S : Sto} (h : StoR G w S H) {p : Addr} {o : HO} (hl : p ∉ w.ph) (hF : ¬ w.Fz p) (nt : ∀ us, H p ≠ some (.tup us)) (nf : ∀ o u, H p ≠ some (.frz o u)) (hn : NoFt o := by intro x us z; cases z) : StoR G w S (L2.upd H p o) where
  len := h.len
  nd := h.nd
  ob := fun l a e => by
    obtain ⟨o', h1, h2⟩ := h.ob l a e
    have : a ≠ p := fun z => hl (z ▸ List.mem_of_getElem? e)
    exact ⟨o', h1, h2.same ⟨fun b hb => upd_ne hb, nt, nf⟩ hF this⟩
  ap := h.ap
  fz := fun a f => by rw [upd_ne (show a ≠ p from fun z => hF (z ▸ f))]; exact h.fz a f
  fr := fr_upd hn h.fr
  gd := fun a q => by
    obtain ⟨o', q⟩ := h.gd a q
    exact ⟨o', by rw [upd_ne (show a ≠ p from fun z => nf _ _ (z ▸ q))]; exact q⟩
  gg := fun a q => by
    obtain ⟨o', q⟩ := h.gg a q
    exact ⟨o', by rw [upd_ne (show a ≠ p from fun z => nf _ _ (z ▸ q))]; exact q⟩
/-! ### slots -/
theorem SlR.set {σD : Slots} {σ : St} (h : SlR G H w σD σ) {i : Nat} {d : D} {v : V} (r : Rep G H w d v) : SlR G H w (σD.set i (some d)) (σ.set i (some v)) := ⟨fun j e q => by
  by_cases hj : j = i
  · subst hj
    by_cases hD : j < σD.length
    · rw [List.getElem?_set_self hD] at q
      obtain rfl : d = e := by simpa using q
      exact ⟨v, by rw [List.getElem?_set_self (Nat.lt_of_lt_of_le hD h.le)], r⟩
    · rw [List.getElem?_eq_none (by rw [List.length_set]; omega)] at q
      cases q
  · rw [List.getElem?_set_ne (Ne.symm hj)] at q
    obtain ⟨u, e1, e2⟩ := h.at_ j e q
    exact ⟨u, by rw [List.getElem?_set_ne (Ne.symm hj)]; exact e1, e2⟩, by rw [List.length_set, List.length_set]; exact h.le⟩
theorem SlR.none {σD : Slots} {σ : St} (h : SlR G H w σD σ) (i : Nat) : SlR G H w (σD.set i none) (σ.set i none) := ⟨fun j e q => by
  by_cases hj : j = i
  · subst hj
    by_cases hD : j < σD.length
    · rw [List.getElem?_set_self hD] at q; cases q
    · rw [List.getElem?_eq_none (by rw [List.length_set]; omega)] at q; cases q
  · rw [List.getElem?_set_ne (Ne.symm hj)] at q
    obtain ⟨u, e1, e2⟩ := h.at_ j e q
    exact ⟨u, by rw [List.getElem?_set_ne (Ne.symm hj)]; exact e1, e2⟩, by rw [List.length_set, List.length_set]; exact h.le⟩
theorem SlR.wipe {σD : Slots} {σ : St} (h : SlR G H w σD σ) : ∀ vs : List Nat, SlR G H w (wipeD σD vs) (L2.wipe σ vs)
  | [] => h
  | v :: vs => SlR.none (SlR.wipe h vs) v
theorem Reps.length : ∀ {xs : List D} {us : List V}, Reps G H w xs us → us.length = xs.length
  | [], _, h => by
    have h : _ = [] := h
    subst h; rfl
  | x :: xs, _, ⟨u, r, e, _, b⟩ => by subst e; simp [Reps.length b]
theorem Reps.get : ∀ {xs : List D} {us : List V} {i : Nat} {x : D}, Reps G H w xs us → xs[i]? = some x → ∃ u, us[i]? = some u ∧ Rep G H w x u
  | [], _, _, _, _, e => by simp at e
  | y :: ys, _, 0, x, ⟨u, r, e1, a, b⟩, e => by
    obtain rfl : y = x := by simpa using e
    exact ⟨u, by subst e1; rfl, a⟩
  | y :: ys, _, i + 1, x, ⟨u, r, e1, a, b⟩, e => by
    obtain ⟨v, h1, h2⟩ := Reps.get (i := i) (x := x) b (by simpa using e)
    exact ⟨v, by subst e1; simpa using h1, h2⟩
theorem Reps.append : ∀ {xs ys : List D} {us vs : List V}, Reps G H w xs us → Reps G H w ys vs → Reps G H w (xs ++ ys) (us ++ vs)
  | [], ys, us, vs, h, k => by
    have h : us = [] := h
    subst h; exact k
  | x :: xs, ys, _, vs, ⟨u, r, e, a, b⟩, k => ⟨u, r ++ vs, by subst e; rfl, a, Reps.append b k⟩
theorem Reps.nil : Reps G H w [] [] := rfl
theorem Reps.cons {x : D} {xs : List D} {u : V} {us : List V} (a : Rep G H w x u) (b : Reps G H w xs us) : Reps G H w (x :: xs) (u :: us) := ⟨u, us, rfl, a, b⟩
theorem Reps.take : ∀ {xs : List D} {us : List V} (n : Nat), Reps G H w xs us → Reps G H w (xs.take n) (us.take n)
  | _, _, 0, _ => by simp; exact Reps.nil
  | [], _, n + 1, h => by
    have h : _ = [] := h
    subst h; simp; exact Reps.nil
  | x :: xs, _, n + 1, ⟨u, r, e, a, b⟩ => by subst e; simp; exact Reps.cons a (Reps.take n b)
theorem Reps.drop : ∀ {xs : List D} {us : List V} (n : Nat), Reps G H w xs us → Reps G H w (xs.drop n) (us.drop n)
  | _, _, 0, h => by simpa using h
  | [], _, n + 1, h => by
    have h : _ = [] := h
    subst h; simp; exact Reps.nil
  | x :: xs, _, n + 1, ⟨u, r, e, a, b⟩ => by subst e; simpa using Reps.drop n b
theorem Reps.reverse : ∀ {xs : List D} {us : List V}, Reps G H w xs us → Reps G H w xs.reverse us.reverse
  | [], _, h => by
    have h : _ = [] := h
    subst h; exact Reps.nil
  | x :: xs, _, ⟨u, r, e, a, b⟩ => by
    subst e
    rw [List.reverse_cons, List.reverse_cons]
    exact Reps.append (Reps.reverse b) (Reps.cons a Reps.nil)
theorem Reps.set : ∀ {xs : List D} {us : List V} {x : D} {u : V} (n : Nat), Reps G H w xs us → Rep G H w x u → Reps G H w (xs.set n x) (us.set n u)
  | [], _, _, _, n, h, _ => by
    have h : _ = [] := h
    subst h; simp; exact Reps.nil
  | y :: ys, _, x, u, 0, ⟨v, r, e, a, b⟩, k => by subst e; exact Reps.cons k b
  | y :: ys, _, x, u, n + 1, ⟨v, r, e, a, b⟩, k => by subst e; exact Reps.cons a (Reps.set n b k)
theorem Reps.eraseIdx : ∀ {xs : List D} {us : List V} (n : Nat), Reps G H w xs us → Reps G H w (xs.eraseIdx n) (us.eraseIdx n)
  | [], _, n, h => by
    have h : _ = [] := h
    subst h; simp; exact Reps.nil
  | y :: ys, _, 0, ⟨v, r, e, a, b⟩ => by subst e; exact b
  | y :: ys, _, n + 1, ⟨v, r, e, a, b⟩ => by subst e; exact Reps.cons a (Reps.eraseIdx n b)
theorem reps_refl {f : D → V} {xs : List D} (h : ∀ x ∈ xs, Rep G H w x (f x)) : Reps G H w xs (xs.map f) := by
  induction xs with
  | nil => exact Reps.nil
  | cons x xs ih => exact Reps.cons (h x List.mem_cons_self) (ih fun y hy => h y (List.mem_cons_of_mem _ hy))
end
end Lt
namespace Lt
open PySem L2 PySem.Spec PyProof.Rows

def GoodV (G : AMap) (H0 : Hp) (w0 : Wd) (d : D) (S : Sto) (Q : VK) : Prop := ∀ w v H, Ext H0 w0 H w → StoR G w S H → Rep G H w d v → Q v H
/-- what is wanted of an exception -/
def GoodX (G : AMap) (H0 : Hp) (w0 : Wd) (x : Str) (S : Sto) (W : XK) : Prop := ∀ w H, Ext H0 w0 H w → StoR G w S H → ∀ C, G x = some C → W (.ref C) none H
def GoodR (G : AMap) (H0 : Hp) (w0 : Wd) (W : XK) (r : R D) (Q : VK) : Prop := match r with
  | .ok d S => GoodV G H0 w0 d S Q
  | .exc x S => GoodX G H0 w0 x S W
  | .bad => False
def GoodRs (G : AMap) (H0 : Hp) (w0 : Wd) (W : XK) (r : R (List D)) (Q : List V → Hp → Prop) : Prop := match r with
  | .ok ds S => ∀ w vs H, Ext H0 w0 H w → StoR G w S H → Reps G H w ds vs → Q vs H
  | .exc x S => GoodX G H0 w0 x S W
  | .bad => False
/-- a value operation's answer: it raises nothing -/
def GoodN (G : AMap) (H0 : Hp) (w0 : Wd) (r : R D) (Q : VK) : Prop := match r with
  | .ok d S => GoodV G H0 w0 d S Q
  | _ => False
def NoX : XK := fun _ _ _ => False
/-- an expression, read by the evaluator -/
def tEV (G : AMap) (W : XK) (f : Slots → Sto → R D) : TE := fun σ H Q => ∃ w σD S, SlR G H w σD σ ∧ StoR G w S H ∧ GoodR G H w W (f σD S) Q
def tEVs (G : AMap) (W : XK) (f : Slots → Sto → R (List D)) : TA := fun σ H Q => ∃ w σD S, SlR G H w σD σ ∧ StoR G w S H ∧ GoodRs G H w W (f σD S) Q
def GoodB (G : AMap) (H0 : Hp) (w0 : Wd) (W : XK) (r : R D) (Q : Bool → Hp → Prop) : Prop := match r with
  | .ok (.bl b) S => ∀ w H, Ext H0 w0 H w → StoR G w S H → Q b H
  | .exc x S => GoodX G H0 w0 x S W
  | _ => False
def tEVT (G : AMap) (W : XK) (f : Slots → Sto → R D) : TT := fun σ H Q => ∃ w σD S, SlR G H w σD σ ∧ StoR G w S H ∧ GoodB G H w W (f σD S) Q
theorem pe_imp {X : Cx} {e : Expr} {t t' : TE} (h : PE X e t) (k : ∀ σ H Q, t' σ H Q → t σ H Q) : PE X e t' := ⟨fun pins s σ H Q I q => h.run pins s σ H Q I (k σ H Q q)⟩
theorem pt_imp {X : Cx} {e : Expr} {t t' : TT} (h : PT X e t) (k : ∀ σ H Q, t' σ H Q → t σ H Q) : PT X e t' := ⟨fun pins s σ H Q I q => h.run pins s σ H Q I (k σ H Q q)⟩
theorem pw_imp {X : Cx} {e : Expr} {t t' : TT} (h : PW X e t) (k : ∀ σ H Q, t' σ H Q → t σ H Q) : PW X e t' := ⟨fun whole pins s σ H Q I q => h.run whole pins s σ H Q I (k σ H Q q)⟩
theorem pa_imp {X : Cx} {e : List Expr} {t t' : TA} (h : PA X e t) (k : ∀ σ H Q, t' σ H Q → t σ H Q) : PA X e t' := ⟨fun pos pins s σ H Q I q => h.run pos pins s σ H Q I (k σ H Q q)⟩
section
variable {G : AMap} {H H1 H2 : Hp} {w w1 w2 : Wd} {W : XK} {S : Sto}
theorem GoodX.mono (e : Ext H w H1 w1) {x : Str} (h : GoodX G H w x S W) : GoodX G H1 w1 x S W := fun w2 H2 e2 st C hC => h w2 H2 (e.trans e2) st C hC
theorem GoodR.imp {r : R D} {Q Q' : VK} (h : GoodR G H w W r Q) (k : ∀ v H2, Q v H2 → Q' v H2) : GoodR G H w W r Q' := by
  cases r with
  | ok d S => exact fun w2 v H2 e st rp => k _ _ (h w2 v H2 e st rp)
  | exc x S => exact h
  | bad => exact h
theorem GoodR.mono (e : Ext H w H1 w1) {r : R D} {Q : VK} (h : GoodR G H w W r Q) : GoodR G H1 w1 W r Q := by
  cases r with
  | ok d S => exact fun w2 v H2 e2 st rp => h w2 v H2 (e.trans e2) st rp
  | exc x S => exact GoodX.mono e h
  | bad => exact h
theorem GoodN.toR {r : R D} {Q : VK} (h : GoodN G H w r Q) : GoodR G H w W r Q := by
  cases r with
  | ok d S => exact h
  | exc x S => exact h.elim
  | bad => exact h
theorem GoodN.mono (e : Ext H w H1 w1) {r : R D} {Q : VK} (h : GoodN G H w r Q) : GoodN G H1 w1 r Q := by
  cases r with
  | ok d S => exact fun w2 v H2 e2 st rp => h w2 v H2 (e.trans e2) st rp
  | exc x S => exact h
  | bad => exact h
/-- a bind: what follows is asked behind every end of the first part -/
theorem GoodR.bind {r : R D} {f : D → Sto → R D} {Q : VK} (h : GoodR G H w W (r.bind f) Q) :
    GoodR G H w W r (fun v H2 => ∃ w2 d S2, Ext H w H2 w2 ∧ StoR G w2 S2 H2 ∧ Rep G H2 w2 d v ∧ GoodR G H2 w2 W (f d S2) Q) := by
  cases r with
  | ok d S => exact fun w2 v H2 e st rp => ⟨w2, d, S, e, st, rp, GoodR.mono e h⟩
  | exc x S => exact h
  | bad => exact h
theorem GoodR.binds {r : R (List D)} {f : List D → Sto → R D} {Q : VK} (h : GoodR G H w W (r.bind f) Q) :
    GoodRs G H w W r (fun vs H2 => ∃ w2 ds S2, Ext H w H2 w2 ∧ StoR G w2 S2 H2 ∧ Reps G H2 w2 ds vs ∧ GoodR G H2 w2 W (f ds S2) Q) := by
  cases r with
  | ok d S => exact fun w2 v H2 e st rp => ⟨w2, d, S, e, st, rp, GoodR.mono e h⟩
  | exc x S => exact h
  | bad => exact h
theorem GoodV.here {d : D} {S : Sto} {Q : VK} (h : GoodV G H w d S Q) (st : StoR G w S H) {v : V} (r : Rep G H w d v) : Q v H := h w v H (Ext.refl H w) st r
theorem GoodV.froze {d : D} {S : Sto} {Q : VK} (h : GoodV G H w d S Q) (st : StoR G w S H) {p : Addr} {o : HO} (hp : H p = none) (r : Rep G (upd H p o) (w.froze p) d (.ref p)) (hn : NoFt o := by intro x us z; cases z) : Q (.ref p) (upd H p o) :=
  h _ _ _ (Ext.froze st hp) (st.froze hp hn) r
theorem GoodV.more {d : D} {S : Sto} {ob : Ob} {Q : VK} (h : GoodV G H w d (S ++ [ob]) Q) (st : StoR G w S H) {p : Addr} {o : HO} (hp : H p = none) (new : ObR G (upd H p o) (w.more p) ob p) (r : Rep G (upd H p o) (w.more p) d (.ref p)) (hn : NoFt o := by intro x us z; cases z) : Q (.ref p) (upd H p o) :=
  h _ _ _ (Ext.more st hp) (st.more hp new hn) r
theorem rep_new (st : StoR G w S H) {p : Addr} {ob : HO} : Rep G (upd H p ob) (w.more p) (.loc S.length) (.ref p) :=
  ⟨p, rfl, by show (w.ph ++ [p])[S.length]? = some p; rw [← st.len]; simp⟩
theorem upd_tup (st : StoR G w S H) {p : Addr} (hp : H p = none) {xs : List D} {us : List V} (r : Reps G H w xs us) : Rep G (upd H p (.tup us)) w (.tup xs) (.ref p) :=
  ⟨p, us, rfl, .inl upd_same, Reps.mono (Ext.upd st hp) _ _ r⟩
/-- a new tuple -/
theorem GoodV.newTup {xs : List D} {us : List V} {Q : VK} (h : GoodV G H w (.tup xs) S Q) (st : StoR G w S H) (r : Reps G H w xs us) {p : Addr} (hp : H p = none) : Q (.ref p) (upd H p (.tup us)) :=
  h _ _ _ (Ext.upd st hp) (st.upd hp) (upd_tup st hp r)
/-- a new list, as it is told -/
theorem GoodN.newLst {m : Bool} {xs : List D} {us : List V} {Q : VK} (h : GoodN G H w (mkL m xs S) Q) (st : StoR G w S H) (r : Reps G H w xs us) {p : Addr} (hp : H p = none) : Q (.ref p) (upd H p (.lst us)) := by
  unfold mkL at h
  cases m with
  | true =>
    rw [if_pos rfl] at h
    exact GoodV.more h st hp ⟨us, upd_same, Reps.mono (Ext.more st hp) _ _ r⟩ (rep_new st)
  | false =>
    rw [if_neg (by simp)] at h
    exact GoodV.froze h st hp ⟨p, us, rfl, .inr rfl, .inl upd_same, Reps.mono (Ext.froze st hp) _ _ r⟩
theorem GoodR.newLst {m : Bool} {xs : List D} {us : List V} {Q : VK} (h : GoodR G H w W (mkL m xs S) Q) (st : StoR G w S H) (r : Reps G H w xs us) {p : Addr} (hp : H p = none) : Q (.ref p) (upd H p (.lst us)) := by
  refine GoodN.newLst (m := m) (xs := xs) ?_ st r hp
  unfold mkL at h ⊢
  cases m <;> exact h
/-- a list, by the value that stands for it -/
theorem lst_at {d : D} {v : V} {xs : List D} (st : StoR G w S H) (r : Rep G H w d v) (h : lstOf S d = some xs) : ∃ a us, v = .ref a ∧ Rd H a (.lst us) ∧ Reps G H w xs us := by
  cases d with
  | vl ys =>
    obtain ⟨a, us, e, _, rd, q⟩ := r
    cases h
    exact ⟨a, us, e, rd, q⟩
  | loc l =>
    obtain ⟨a, e, hp⟩ := r
    obtain ⟨o, h1, h2⟩ := st.ob l a hp
    simp only [lstOf, h1] at h
    cases o with
    | lst ys =>
      cases h
      obtain ⟨us, e2, q⟩ := h2
      exact ⟨a, us, e, .inl e2, q⟩
    | _ => cases h
  | _ => cases h
def DicV (G : AMap) (H : Hp) (w : Wd) (kvs : List (D × D)) (a : Addr) : Prop := DicR G H w kvs a fun u => Rd H a u
theorem mixd_T {kvs : List (D × D)} (h : mixd kvs = true) (k : (kvs.all fun p => keyT p.1) = true) : False := by
  unfold mixd at h
  rw [k] at h
  simp at h
theorem mixd_K {kvs : List (D × D)} (h : mixd kvs = true) (k : (kvs.all fun p => keyK p.1) = true) : False := by
  unfold mixd at h
  rw [k] at h
  simp at h
theorem mixd_ok {kvs : List (D × D)} {k : D} (h : mixd kvs = true) (ok : keysOk kvs k = true) : False := by
  unfold keysOk at ok
  simp only [Bool.and_eq_true, Bool.or_eq_true] at ok
  rcases ok.2 with z | z
  · exact mixd_T h z.2
  · exact mixd_K h z.2
theorem dct_at {d : D} {v : V} {kvs : List (D × D)} (st : StoR G w S H) (r : Rep G H w d v) (h : dctOf S d = some kvs) : ∃ a, v = .ref a ∧ DicV G H w kvs a := by
  cases d with
  | vd ys =>
    obtain ⟨a, e, _, q⟩ := r
    cases h
    exact ⟨a, e, q⟩
  | loc l =>
    obtain ⟨a, e, hp⟩ := r
    obtain ⟨o, h1, h2⟩ := st.ob l a hp
    simp only [dctOf, h1] at h
    cases o with
    | dct ys =>
      cases h
      exact ⟨a, e, h2.elim (fun ⟨L, e2, q⟩ => .inl ⟨L, .inl e2, q⟩) fun h2 => .inr (h2.elim (fun ⟨L, e2, q⟩ => .inl ⟨L, .inl e2, q⟩) fun ⟨L, e2, q⟩ => .inr ⟨L, .inl e2, q⟩)⟩
    | fdct ys =>
      cases h
      exact ⟨a, e, h2.elim (fun ⟨L, e2, q⟩ => .inl ⟨L, .inr e2, q⟩) fun h2 => .inr (h2.elim (fun ⟨L, e2, q⟩ => .inl ⟨L, .inr e2, q⟩) fun ⟨L, e2, q⟩ => .inr ⟨L, .inr e2, q⟩)⟩
    | _ => cases h
  | _ => cases h

theorem view_lst {d : D} {xs : List D} (h : viewOf S d = .lst xs) : lstOf S d = some xs := by
  unfold viewOf at h
  cases e : lstOf S d with
  | some ys => rw [e] at h; cases h; rfl
  | none => rw [e] at h; cases e2 : dctOf S d <;> rw [e2] at h <;> cases h
theorem view_dct {d : D} {kvs : List (D × D)} (h : viewOf S d = .dct kvs) : dctOf S d = some kvs := by
  unfold viewOf at h
  cases e : lstOf S d with
  | some ys => rw [e] at h; cases h
  | none =>
    rw [e] at h
    cases e2 : dctOf S d with
    | some ys => rw [e2] at h; cases h; rfl
    | none => rw [e2] at h; cases h
/-! ### operators by values -/
def rD2 (G : AMap) (f : Sto → D → D → R D) : R2 := fun x y H Q => ∃ w S a b, StoR G w S H ∧ Rep G H w a x ∧ Rep G H w b y ∧ GoodN G H w (f S a b) Q
def rD1 (G : AMap) (f : Sto → D → R D) : V → Hp → VK → Prop := fun x H Q => ∃ w S a, StoR G w S H ∧ Rep G H w a x ∧ GoodN G H w (f S a) Q
theorem OpR.imp {X : Cx} {f : Value → Value → Sem Value} {r r' : R2} (h : OpR X f r) (k : ∀ x y H Q, r' x y H Q → r x y H Q) : OpR X f r' := fun pins s σ H x y v u Q I rx ry q => h pins s σ H x y v u Q I rx ry (k _ _ _ _ q)
variable {X : Cx} {pins : List (Addr × Obj)} {σ : L2.St} {s : Shared}
/-- a list's object, read -/
theorem lst_obj (I : Inv X pins σ H s) {a : Addr} {us : List V} (h : Rd H a (.lst us)) : us.length ≤ sizeLine ∧ ∃ (its : List Value) (n : Nat), Vals us its ∧ its.length = us.length ∧ s.heap.get? a = some { cls := .type "list", data := .seq its.toArray n } := by
  obtain ⟨z, its, n, r, e⟩ := h.ok I.hok
  exact ⟨z, its, n, r, r.length.symm, e⟩
theorem SqT.rd {K : PySem.W.Frag} {a : Addr} {us : List V} (h : Rd H a (.tup us)) : SqT K H a us := .inl h
theorem SqL.rd {K : PySem.W.Frag} {a : Addr} {us : List V} (h : Rd H a (.lst us)) : SqL K H a us := .inl h
def rCatR : R2 := fun x y H Q => ∃ l b xs zs, x = .ref l ∧ y = .ref b ∧ Rd H l (.lst xs) ∧ Rd H b (.lst zs) ∧ xs.length + zs.length ≤ sizeLine ∧ ∀ p, H p = none → Q (.ref p) (upd H p (.lst (xs ++ zs)))
theorem op_catR : OpR X (binaryOp .Add) rCatR := by
  intro pins s σ H x y v u Q I rx ry h
  obtain ⟨l, b, xs, zs, rfl, rfl, hH, hB, hz, q⟩ := h
  cases rx
  cases ry
  obtain ⟨z, its, n, r, hl, e⟩ := lst_obj I hH
  obtain ⟨z2, its2, n2, r2, hl2, e2⟩ := lst_obj I hB
  refine PySem.P.add_list e e2 ?_ (by rw [List.size_toArray, List.size_toArray]; omega)
  have hf : H s.heap.objs.size = none := I.hok.fresh (Nat.le_refl _)
  refine ⟨.ref s.heap.objs.size, _, I.laid (o := .lst (xs ++ zs)) (t' := s.toks) (fun b u e => Heap.get?_push_of_some _ e) (Nat.le_refl _) ?_, rfl, q _ hf⟩
  exact ⟨by rw [List.length_append]; exact hz, its ++ its2, 0, r.append r2, by rw [Heap.get?_push_size _ (by rfl)]; simp⟩
end
end Lt
namespace Lt
open PySem L2 PySem.Spec PyProof.Rows
def opOf : BOp → Operator
  | .add => .Add
  | .sub => .Sub
  | .mul => .Mult
  | .fdiv => .FloorDiv
  | .mod => .Mod
  | .pow => .Pow
section
variable {G : AMap} {H H1 H2 : Hp} {w w1 w2 : Wd} {W : XK} {S : Sto}
variable {X : Cx} {pins : List (Addr × Obj)} {σ : L2.St} {s : Shared}
theorem sizeLine_big : (4096 : Nat) ≤ sizeLine := by rw [sizeLine_eq]; decide
theorem reps_flat (r : ∀ (xs : List D) (us : List V), True) : True := trivial
theorem Reps.rep {xs : List D} {us : List V} (r : Reps G H w xs us) : ∀ n : Nat, Reps G H w (repL xs n) (List.replicate n us).flatten
  | 0 => by simp [repL]; exact Reps.nil
  | n + 1 => by
    have := Reps.append r (Reps.rep r n)
    simpa [repL, List.replicate_succ] using this
theorem tup_of {xs : List D} {v : V} (r : Rep G H w (.tup xs) v) : ∃ a us, v = .ref a ∧ Rd H a (.tup us) ∧ Reps G H w xs us := r
theorem cat_ok {m : Bool} {a b : D} {x y : V} {Q : VK} (st : StoR G w S H) (ra : Rep G H w a x) (rb : Rep G H w b y) {xs ys : List D} (h1 : lstOf S a = some xs) (h2 : lstOf S b = some ys) (hl : xs.length + ys.length ≤ 4096)
    (g : GoodN G H w (mkL m (xs ++ ys) S) Q) : rCatR x y H Q := by
  obtain ⟨l, us, rfl, r1, q1⟩ := lst_at st ra h1
  obtain ⟨k, vs, rfl, r2, q2⟩ := lst_at st rb h2
  refine ⟨l, k, us, vs, rfl, rfl, r1, r2, ?_, fun p hp => g.newLst st (Reps.append q1 q2) hp⟩
  have := Reps.length q1
  have := Reps.length q2
  have := sizeLine_big
  omega
theorem add_ok (m : Bool) : OpR X (binaryOp .Add) (rD2 G fun S a b => binop m S .add a b) := by
  intro pins s σ H x y v u Q I rx ry ⟨w, S, a, b, st, ra, rb, g⟩
  replace g : GoodN G H w (addD m S a b) Q := g
  unfold addD at g
  split at g
  · cases ra; cases rb
    exact op_add pins s σ H _ _ v u Q I rx ry ⟨_, _, rfl, rfl, GoodV.here g st rfl⟩
  · cases ra; cases rb
    split at g
    · rename_i hl
      exact op_add_str pins s σ H _ _ v u Q I rx ry ⟨_, _, rfl, rfl, Nat.le_trans hl sizeLine_big, GoodV.here g st rfl⟩
    · exact g.elim
  · rename_i xs ys
    obtain ⟨a1, us, rfl, r1, q1⟩ := tup_of ra
    obtain ⟨a2, vs, rfl, r2, q2⟩ := tup_of rb
    split at g
    · rename_i hl
      have l1 := Reps.length q1
      have l2 := Reps.length q2
      refine op_catA pins s σ H _ _ v u Q I rx ry ⟨a1, a2, us, vs, rfl, rfl, SqT.rd r1, SqT.rd r2, Nat.le_trans (by omega) sizeLine_big, fun z => ?_, fun _ z => ?_, fun _ _ p hp => GoodV.newTup g st (Reps.append q1 q2) hp⟩
      · have hx : xs = [] := List.eq_nil_of_length_eq_zero (by rw [← l1, z]; rfl)
        subst hx
        exact GoodV.here g st ⟨a2, vs, rfl, r2, q2⟩
      · have hy : ys = [] := List.eq_nil_of_length_eq_zero (by rw [← l2, z]; rfl)
        subst hy
        rw [List.append_nil] at g
        exact GoodV.here g st ⟨a1, us, rfl, r1, q1⟩
    · exact g.elim
  · split at g
    · rename_i h1 h2
      split at g
      · rename_i hl
        exact op_catR pins s σ H _ _ v u Q I rx ry (cat_ok st ra rb h1 h2 hl g)
      · exact g.elim
    · exact g.elim
theorem intop_ok {a b : D} {c : Int → Int → Bool} {f : Int → Int → Int} {x y : V} {Q : VK} (st : StoR G w S H) (ra : Rep G H w a x) (rb : Rep G H w b y) (g : GoodN G H w (intop S a b c f) Q) :
    ∃ i j, x = .int i ∧ y = .int j ∧ c i j = true ∧ Q (.int (f i j)) H := by
  cases a <;> cases b <;> first | exact g.elim | skip
  rename_i i j
  simp only [intop] at g
  cases ra; cases rb
  by_cases h : c i j = true
  · rw [if_pos h] at g
    exact ⟨i, j, rfl, rfl, h, GoodV.here g st rfl⟩
  · rw [if_neg h] at g
    exact g.elim
theorem sub_ok (m : Bool) : OpR X (binaryOp .Sub) (rD2 G fun S a b => binop m S .sub a b) := by
  intro pins s σ H x y v u Q I rx ry ⟨w, S, a, b, st, ra, rb, g⟩
  obtain ⟨i, j, rfl, rfl, _, q⟩ := intop_ok st ra rb g
  exact op_sub pins s σ H _ _ v u Q I rx ry ⟨_, _, rfl, rfl, q⟩
theorem fdiv_ok (m : Bool) : OpR X (binaryOp .FloorDiv) (rD2 G fun S a b => binop m S .fdiv a b) := by
  intro pins s σ H x y v u Q I rx ry ⟨w, S, a, b, st, ra, rb, g⟩
  obtain ⟨i, j, rfl, rfl, c, q⟩ := intop_ok st ra rb g
  simp only [Bool.and_eq_true, decide_eq_true_eq] at c
  exact op_fdiv pins s σ H _ _ v u Q I rx ry ⟨_, _, rfl, rfl, c, q⟩
theorem mod_ok (m : Bool) : OpR X (binaryOp .Mod) (rD2 G fun S a b => binop m S .mod a b) := by
  intro pins s σ H x y v u Q I rx ry ⟨w, S, a, b, st, ra, rb, g⟩
  obtain ⟨i, j, rfl, rfl, c, q⟩ := intop_ok st ra rb g
  exact op_mod pins s σ H _ _ v u Q I rx ry ⟨_, _, rfl, rfl, of_decide_eq_true c, q⟩
theorem pow_ok (m : Bool) : OpR X (binaryOp .Pow) (rD2 G fun S a b => binop m S .pow a b) := by
  intro pins s σ H x y v u Q I rx ry ⟨w, S, a, b, st, ra, rb, g⟩
  obtain ⟨i, j, rfl, rfl, c, q⟩ := intop_ok st ra rb g
  simp only [Bool.and_eq_true, decide_eq_true_eq] at c
  exact op_pow pins s σ H _ _ v u Q I rx ry ⟨_, _, rfl, rfl, ⟨c.1, Int.le_trans c.2.1 (by decide), c.2.2⟩, q⟩
def rRepR : R2 := fun x y H Q => ∃ a k xs, x = .ref a ∧ y = .int k ∧ Rd H a (.lst xs) ∧ -64 ≤ k ∧ k ≤ 64 ∧ xs.length ≤ 64 ∧ ∀ p, H p = none → Q (.ref p) (upd H p (.lst (List.replicate k.toNat xs).flatten))
theorem op_repR : OpR X (binaryOp .Mult) rRepR := by
  intro pins s σ H x y v u Q I rx ry ⟨a, k, xs, ex, ey, hR, k1, k2, hx, q⟩
  subst ex ey
  cases rx
  obtain ⟨tk, rfl⟩ := ry
  obtain ⟨_, vals, n, rel, len, ob⟩ := lst_obj I hR
  have fit : xs.length * k.toNat ≤ sizeLine := Nat.le_trans (Nat.mul_le_mul hx (show k.toNat ≤ 64 by omega)) (by rw [sizeLine_eq]; decide)
  have fit2 : vals.toArray.size * k.toNat ≤ sizeLine := by rw [List.size_toArray, len]; exact fit
  have cap : ¬ vals.toArray.size * k.toNat > (2 ^ 63 - 1) / 8 := by
    have big : (sizeLine : Nat) ≤ (2 ^ 63 - 1) / 8 := by decide
    omega
  have ok1 : ¬ (!Builtin.List.listFitsIndex k) = true := by rw [fitsIndex_both (by omega) (by omega)]; simp
  have ok2 : ¬ Builtin.List.listTooLong (vals.toArray.size * k.toNat) = true := by rw [notLongL fit2]; simp
  have made : List.foldl (fun x1 x2 => x1 ++ x2) #[] (List.replicate (if vals.toArray.isEmpty = true then 0 else k.toNat) vals.toArray) = (List.replicate k.toNat vals).flatten.toArray := by
    have all : ∀ m : Nat, List.foldl (fun x1 x2 => x1 ++ x2) #[] (List.replicate m vals.toArray) = (List.replicate m vals).flatten.toArray := fun m => by simpa using foldl_rep vals m []
    rw [all]
    cases vals with
    | nil => simp
    | cons c d => rw [if_neg (by simp)]
  refine wpAny_binaryOp_repeat_ref (T := "list") (U := "int") (by decide) ⟨_, ob, rfl⟩ (fun s2 => typeIs_int s2 k tk) noFill_list_mul F.fills_int_mul F.slot_int_rmul repeat_list F.slot_int_index.lookup
    (call_meets F.slot_int_rmul (typeIs_int s k tk) F.entry_int_rmul (F.args_int_rmul_2 _ _) (int___rmul___int_list k tk a vals.toArray n)
      ⟨ob, rfl, ⟨_, ob, rfl⟩, call_meets F.slot_list_mul ⟨_, ob, rfl⟩ F.entry_list_mul (F.args_list_mul_2 _ _) (AutoListH.list___mul___list_int_3 a vals.toArray n k tk ok1 cap ok2) ⟨ob, ?_⟩⟩)
  rw [made]
  exact ⟨.ref _, _, I.lnew (t' := s.toks) (rel.rep k.toNat) (by rw [PyProof.Rows.lm_len_rep_flat, Nat.mul_comm]; exact fit), rfl, q _ I.fresh⟩
def rMulS : R2 := fun x y H Q => ∃ z k, x = .str z ∧ y = .int k ∧ -64 ≤ k ∧ k ≤ 64 ∧ z.length ≤ 64 ∧ Q (.str (Txt.mul z k)) H
theorem op_mulS : OpR X (binaryOp .Mult) rMulS := by
  intro pins s σ H x y v u Q I rx ry ⟨z, k, ex, ey, k1, k2, hz, q⟩
  subst ex ey
  obtain ⟨t, rfl⟩ := rx
  obtain ⟨t', rfl⟩ := ry
  refine PySem.SB.mul ⟨?_, fun h1 _ => ?_, fun h1 _ => ?_⟩ fun t' tk => ⟨.str (Txt.mul z k), H, I.tok _, ⟨_, rfl⟩, q⟩
  · simp only [Bool.or_eq_false_iff, decide_eq_false_iff_not]
    constructor <;> omega
  · intro h
    have e : (2 ^ 63 - 1 : Int) / 64 ≤ (2 ^ 63 - 1) / k := by
      rw [Int.le_ediv_iff_mul_le (by omega)]
      have a1 : (2 ^ 63 - 1 : Int) / 64 * k ≤ (2 ^ 63 - 1 : Int) / 64 * 64 := Int.mul_le_mul_of_nonneg_left k2 (by decide)
      have a2 : (2 ^ 63 - 1 : Int) / 64 * 64 ≤ 2 ^ 63 - 1 := by decide
      omega
    have : (64 : Int) < (2 ^ 63 - 1) / 64 := by decide
    omega
  · have fit : z.length * k.toNat ≤ 64 * 64 := Nat.mul_le_mul hz (by omega)
    have := sizeLine_big
    simp only [Builtin.Str.tooLong, decide_eq_false_iff_not]
    omega
theorem mulOk_ok {i j : Int} (h : mulOk i j = true) : CMul i j ∨ CMulW i j := by
  unfold mulOk at h
  simp only [Bool.or_eq_true, Bool.and_eq_true, decide_eq_true_eq] at h
  rcases h with (h | h) | h
  · exact .inl (.inl (by omega))
  · exact .inl (.inr (by omega))
  · exact .inr (wide_mul h.1 h.2 (by decide) (by decide) (by decide))
theorem mul_ok (m : Bool) : OpR X (binaryOp .Mult) (rD2 G fun S a b => binop m S .mul a b) := by
  intro pins s σ H x y v u Q I rx ry ⟨w, S, a, b, st, ra, rb, g⟩
  replace g : GoodN G H w (mulD m S a b) Q := g
  unfold mulD at g
  split at g
  · cases ra; cases rb
    split at g
    · rename_i h
      rcases mulOk_ok h with h | h
      · exact op_mul pins s σ H _ _ v u Q I rx ry ⟨_, _, rfl, rfl, h, GoodV.here g st rfl⟩
      · exact op_mulW pins s σ H _ _ v u Q I rx ry ⟨_, _, rfl, rfl, h, GoodV.here g st rfl⟩
    · exact g.elim
  · cases ra; cases rb
    split at g
    · rename_i h
      exact op_mulS pins s σ H _ _ v u Q I rx ry ⟨_, _, rfl, rfl, h.1, h.2.1, h.2.2, GoodV.here g st rfl⟩
    · exact g.elim
  · cases rb
    obtain ⟨c, us, rfl, r1, q1⟩ := tup_of ra
    split at g
    · rename_i h
      have l1 := Reps.length q1
      refine op_repT pins s σ H _ _ v u Q I rx ry ⟨c, _, us, rfl, rfl, SqT.rd r1, fun z => h.2.2.2 (List.eq_nil_of_length_eq_zero (by rw [← l1, z]; rfl)), h.1, by omega, by omega, fun p hp => GoodV.newTup g st (Reps.rep q1 _) hp⟩
    · exact g.elim
  · cases rb
    split at g
    · rename_i xs h1
      split at g
      · rename_i h
        obtain ⟨l, us, rfl, r1, q1⟩ := lst_at st ra h1
        have l1 := Reps.length q1
        exact op_repR pins s σ H _ _ v u Q I rx ry ⟨l, _, us, rfl, rfl, r1, h.1, h.2.1, by omega, fun p hp => GoodN.newLst g st (Reps.rep q1 _) hp⟩
      · exact g.elim
    · exact g.elim
  · exact g.elim
theorem binop_ok (m : Bool) : ∀ op : BOp, OpR X (binaryOp (opOf op)) (rD2 G fun S a b => binop m S op a b)
  | .add => add_ok m
  | .sub => sub_ok m
  | .mul => mul_ok m
  | .fdiv => fdiv_ok m
  | .mod => mod_ok m
  | .pow => pow_ok m
end
end Lt
namespace Lt
open PySem L2 PySem.Spec PyProof.Rows
section
variable {G : AMap} {H H1 H2 : Hp} {w w1 w2 : Wd} {W : XK} {S : Sto}
variable {X : Cx} {pins : List (Addr × Obj)} {σ : L2.St} {s : Shared}
theorem Rd.same {a : Addr} {u u' : HO} (h : Rd H a u) (h' : Rd H a u') (nu : ∀ o t, u ≠ .frz o t) (nu' : ∀ o t, u' ≠ .frz o t) : u = u' := by
  rcases h with h | ⟨o, h⟩ <;> rcases h' with h' | ⟨o', h'⟩ <;> rw [h] at h' <;> simp only [Option.some.injEq] at h'
  · exact h'
  · exact absurd h' (nu _ _)
  · exact absurd h'.symm (nu' _ _)
  · injection h'
mutual
theorem rep_inj : ∀ (n : Nat) (a b : D) (v : V), flat n a = true → flat n b = true → Rep G H w a v → Rep G H w b v → a = b
  | 0, _, _, _, h, _, _, _ => by simp [flat] at h
  | n + 1, a, b, v, fa, fb, ra, rb => by
    cases a with
    | loc _ => simp [flat] at fa
    | fn _ => simp [flat] at fa
    | vd _ => simp [flat] at fa
    | tup xs =>
      obtain ⟨c, us, rfl, r1, q1⟩ := ra
      cases b with
      | tup ys =>
        obtain ⟨c', us', e, r2, q2⟩ := rb
        cases e
        have e := Rd.same r1 r2 (by intro o t z; cases z) (by intro o t z; cases z)
        cases e
        rw [reps_inj n xs ys us (by simpa [flat] using fa) (by simpa [flat] using fb) q1 q2]
      | vl ys =>
        obtain ⟨c', us', e, _, r2, q2⟩ := rb
        cases e
        have e := Rd.same r1 r2 (by intro o t z; cases z) (by intro o t z; cases z)
        cases e
      | loc _ => simp [flat] at fb
      | fn _ => simp [flat] at fb
      | vd _ => simp [flat] at fb
      | _ => cases rb
    | vl xs =>
      obtain ⟨c, us, rfl, _, r1, q1⟩ := ra
      cases b with
      | vl ys =>
        obtain ⟨c', us', e, _, r2, q2⟩ := rb
        cases e
        have e := Rd.same r1 r2 (by intro o t z; cases z) (by intro o t z; cases z)
        cases e
        rw [reps_inj n xs ys us (by simpa [flat] using fa) (by simpa [flat] using fb) q1 q2]
      | tup ys =>
        obtain ⟨c', us', e, r2, q2⟩ := rb
        cases e
        have e := Rd.same r1 r2 (by intro o t z; cases z) (by intro o t z; cases z)
        cases e
      | loc _ => simp [flat] at fb
      | fn _ => simp [flat] at fb
      | vd _ => simp [flat] at fb
      | _ => cases rb
    | _ =>
      cases ra
      cases b with
      | tup ys => obtain ⟨_, _, e, _⟩ := rb; cases e
      | vl ys => obtain ⟨_, _, e, _⟩ := rb; cases e
      | loc _ => simp [flat] at fb
      | fn _ => simp [flat] at fb
      | vd _ => simp [flat] at fb
      | _ => cases rb <;> rfl
theorem reps_inj : ∀ (n : Nat) (xs ys : List D) (us : List V), flats n xs = true → flats n ys = true → Reps G H w xs us → Reps G H w ys us → xs = ys
  | _, [], [], _, _, _, _, _ => rfl
  | _, [], _ :: _, _, _, _, h, ⟨_, _, e, _⟩ => by
    have h : _ = [] := h
    rw [h] at e; cases e
  | _, _ :: _, [], _, _, _, ⟨_, _, e, _⟩, h => by
    have h : _ = [] := h
    rw [h] at e; cases e
  | n, x :: xs, y :: ys, _, fa, fb, ⟨u, r, e, a1, b1⟩, ⟨u', r', e', a2, b2⟩ => by
    subst e
    cases e'
    simp only [flats, Bool.and_eq_true] at fa fb
    rw [rep_inj n x y u fa.1 fb.1 a1 a2, reps_inj n xs ys r fa.2 fb.2 b1 b2]
end
mutual
theorem eqv_refl : ∀ (n : Nat) (a : D), flat n a = true → eqv a a = true
  | 0, _, h => by simp [flat] at h
  | n + 1, .tup xs, h => by simpa [eqv] using eqvs_refl n xs (by simpa [flat] using h)
  | n + 1, .vl xs, h => by simpa [eqv] using eqvs_refl n xs (by simpa [flat] using h)
  | _ + 1, .non, _ => rfl
  | _ + 1, .bl _, _ => by simp [eqv]
  | _ + 1, .int _, _ => by simp [eqv]
  | _ + 1, .str _, _ => by simp [eqv]
  | _ + 1, .fn _, h => by simp [flat] at h
  | _ + 1, .vd _, h => by simp [flat] at h
  | _ + 1, .loc _, h => by simp [flat] at h
theorem eqvs_refl : ∀ (n : Nat) (xs : List D), flats n xs = true → eqvs xs xs = true
  | _, [], _ => rfl
  | n, x :: xs, h => by
    simp only [flats, Bool.and_eq_true] at h
    simp [eqvs, eqv_refl n x h.1, eqvs_refl n xs h.2]
end
abbrev pairAt (xs ys : List D) (j : Nat) : Bool := eqv (xs.getD j .non) (ys.getD j .non)
theorem eqvs_eq : ∀ xs ys : List D, ((List.range (min xs.length ys.length)).all (pairAt xs ys) && xs.length == ys.length) = eqvs xs ys
  | [], [] => rfl
  | [], _ :: _ => by simp [eqvs]
  | _ :: _, [] => by simp [eqvs]
  | x :: xs, y :: ys => by
    have ih := eqvs_eq xs ys
    have e1 : min (x :: xs).length (y :: ys).length = min xs.length ys.length + 1 := by simp only [List.length_cons]; omega
    have e3 : (List.range (min xs.length ys.length + 1)).all (pairAt (x :: xs) (y :: ys)) = (eqv x y && (List.range (min xs.length ys.length)).all (pairAt xs ys)) := by
      rw [List.range_succ_eq_map, List.all_cons, List.all_map]
      rfl
    rw [e1, e3, eqvs, ← ih, Bool.and_assoc]
    simp
theorem eqvs_len {xs ys : List D} (h : xs.length ≠ ys.length) : eqvs xs ys = false := by
  rw [← eqvs_eq]
  simp [h]
theorem eqvs_same {xs ys : List D} (h : xs.length = ys.length) : (List.range xs.length).all (pairAt xs ys) = eqvs xs ys := by
  rw [← eqvs_eq, ← h]
  simp
theorem tup_obj (I : Inv X pins σ H s) {a : Addr} {us : List V} (h : Rd H a (.tup us)) : us.length ≤ sizeLine ∧ ∃ its : List Value, Vals us its ∧ its.length = us.length ∧ IsTup s.heap a its.toArray := by
  obtain ⟨z, its, r, e⟩ := h.ok I.hok
  exact ⟨z, its, r, r.length.symm, e⟩
theorem tup_isT (I : Inv X pins σ H s) {a : Addr} {us : List V} (h : Rd H a (.tup us)) : ∃ its : List Value, Vals us its ∧ its.length = us.length ∧ s.heap.IsTuple a its.toArray := by
  obtain ⟨_, its, r, l, ⟨o, h1, h2, h3⟩⟩ := tup_obj I h
  exact ⟨its, r, l, ⟨o, h1, h2, h3⟩⟩
theorem lst_isL (I : Inv X pins σ H s) {a : Addr} {us : List V} (h : Rd H a (.lst us)) : ∃ its : List Value, Vals us its ∧ its.length = us.length ∧ s.heap.IsList a its.toArray := by
  obtain ⟨_, its, n, r, l, e⟩ := lst_obj I h
  exact ⟨its, r, l, ⟨_, e, rfl, n, rfl⟩⟩
theorem reps_at {xs : List D} {us : List V} {its : List Value} (q : Reps G H w xs us) (r : Vals us its) {j : Nat} (hj : j < its.toArray.size) : ∃ v, Rep G H w (xs.getD j .non) v ∧ RelV v its.toArray[j] := by
  have hj' : j < its.length := by simpa using hj
  have l1 := r.length
  have l2 := Reps.length q
  have hx : j < xs.length := by omega
  obtain ⟨v, e, rp⟩ := Reps.get (i := j) (x := xs[j]) q (List.getElem?_eq_getElem hx)
  obtain ⟨u, e2, rl⟩ := Vals.get r e
  refine ⟨v, ?_, ?_⟩
  · rw [List.getD_eq_getElem?_getD, List.getElem?_eq_getElem hx]
    exact rp
  · have : its[j] = u := by
      rw [List.getElem?_eq_getElem hj'] at e2
      exact Option.some.inj e2
    simpa [this] using rl
theorem flats_at {n : Nat} : ∀ {xs : List D} {j : Nat}, flats n xs = true → j < xs.length → flat n (xs.getD j .non) = true
  | [], _, _, h => by simp at h
  | x :: xs, 0, h, _ => by simp only [flats, Bool.and_eq_true] at h; exact h.1
  | x :: xs, j + 1, h, hj => by
    simp only [flats, Bool.and_eq_true] at h
    exact flats_at (j := j) h.2 (by simpa using hj)
theorem eq_flat (I : Inv X pins σ H s) : ∀ (n : Nat) (a b : D) (A : Around) (x y : V) (v u : Value), A.units + n < cLine → flat n a = true → flat n b = true → Rep G H w a x → RelV x v → Rep G H w b y → RelV y u → SeqAt.EqAt A s v u (eqv a b)
  | 0, _, _, _, _, _, _, _, _, h, _, _, _, _, _ => by simp [flat] at h
  | n + 1, a, b, A, x, y, v, u, hu, fa, fb, ra, rx, rb, ry => by
    have hu0 : A.units < cLine := by omega
    have hu1 : A.in1.units + n < cLine := by show A.units + 1 + n < cLine; omega
    cases a with
    | loc _ => simp [flat] at fa
    | fn _ => simp [flat] at fa
    | vd _ => simp [flat] at fa
    | non =>
      cases ra; cases rx
      cases b with
      | loc _ => simp [flat] at fb
      | fn _ => simp [flat] at fb
      | vd _ => simp [flat] at fb
      | non => cases rb; cases ry; exact SeqAt.EqAt.same _
      | bl k => cases rb; cases ry; exact SeqAt.EqAt.none_bool k
      | int k => cases rb; obtain ⟨t, rfl⟩ := ry; exact SeqAt.EqAt.none_int k t
      | str k => cases rb; obtain ⟨t, rfl⟩ := ry; exact SeqAt.EqAt.none_str k t
      | tup ys => obtain ⟨c, us, rfl, r1, q1⟩ := rb; cases ry; obtain ⟨its, _, _, h⟩ := tup_isT I r1; exact SeqAt.EqAt.none_tuple h hu0
      | vl ys => obtain ⟨c, us, rfl, _, r1, q1⟩ := rb; cases ry; obtain ⟨its, _, _, h⟩ := lst_isL I r1; exact SeqAt.EqAt.none_list h hu0
    | bl i =>
      cases ra; cases rx
      cases b with
      | loc _ => simp [flat] at fb
      | fn _ => simp [flat] at fb
      | vd _ => simp [flat] at fb
      | non => cases rb; cases ry; exact SeqAt.EqAt.bool_none i
      | bl k => cases rb; cases ry; exact SeqAt.EqAt.bool_bool i k
      | int k => cases rb; obtain ⟨t, rfl⟩ := ry; exact SeqAt.EqAt.bool_int i k t
      | str k => cases rb; obtain ⟨t, rfl⟩ := ry; exact SeqAt.EqAt.bool_str i k t
      | tup ys => obtain ⟨c, us, rfl, r1, q1⟩ := rb; cases ry; obtain ⟨its, _, _, h⟩ := tup_isT I r1; exact SeqAt.EqAt.bool_tuple i h hu0
      | vl ys => obtain ⟨c, us, rfl, _, r1, q1⟩ := rb; cases ry; obtain ⟨its, _, _, h⟩ := lst_isL I r1; exact SeqAt.EqAt.bool_list i h hu0
    | int i =>
      cases ra; obtain ⟨t', rfl⟩ := rx
      cases b with
      | loc _ => simp [flat] at fb
      | fn _ => simp [flat] at fb
      | vd _ => simp [flat] at fb
      | non => cases rb; cases ry; exact SeqAt.EqAt.int_none i t'
      | bl k => cases rb; cases ry; exact SeqAt.EqAt.int_bool i t' k
      | int k => cases rb; obtain ⟨t, rfl⟩ := ry; exact SeqAt.EqAt.int_int i t' k t
      | str k => cases rb; obtain ⟨t, rfl⟩ := ry; exact SeqAt.EqAt.int_str i t' k t
      | tup ys => obtain ⟨c, us, rfl, r1, q1⟩ := rb; cases ry; obtain ⟨its, _, _, h⟩ := tup_isT I r1; exact SeqAt.EqAt.int_tuple i t' h hu0
      | vl ys => obtain ⟨c, us, rfl, _, r1, q1⟩ := rb; cases ry; obtain ⟨its, _, _, h⟩ := lst_isL I r1; exact SeqAt.EqAt.int_list i t' h hu0
    | str i =>
      cases ra; obtain ⟨t', rfl⟩ := rx
      cases b with
      | loc _ => simp [flat] at fb
      | fn _ => simp [flat] at fb
      | vd _ => simp [flat] at fb
      | non => cases rb; cases ry; exact SeqAt.EqAt.str_none i t'
      | bl k => cases rb; cases ry; exact SeqAt.EqAt.str_bool i t' k
      | int k => cases rb; obtain ⟨t, rfl⟩ := ry; exact SeqAt.EqAt.str_int i t' k t
      | str k => cases rb; obtain ⟨t, rfl⟩ := ry; exact SeqAt.EqAt.str_str i t' k t
      | tup ys => obtain ⟨c, us, rfl, r1, q1⟩ := rb; cases ry; obtain ⟨its, _, _, h⟩ := tup_isT I r1; exact SeqAt.EqAt.str_tuple i t' h hu0
      | vl ys => obtain ⟨c, us, rfl, _, r1, q1⟩ := rb; cases ry; obtain ⟨its, _, _, h⟩ := lst_isL I r1; exact SeqAt.EqAt.str_list i t' h hu0
    | tup xs =>
      have ra' := ra
      obtain ⟨l, us, rfl, r1, q1⟩ := ra
      cases rx
      obtain ⟨its, rv, il, hl⟩ := tup_isT I r1
      cases b with
      | loc _ => simp [flat] at fb
      | fn _ => simp [flat] at fb
      | vd _ => simp [flat] at fb
      | non => cases rb; cases ry; exact SeqAt.EqAt.tuple_none hl hu0
      | bl k => cases rb; cases ry; exact SeqAt.EqAt.tuple_bool k hl hu0
      | int k => cases rb; obtain ⟨t, rfl⟩ := ry; exact SeqAt.EqAt.tuple_int k t hl hu0
      | str k => cases rb; obtain ⟨t, rfl⟩ := ry; exact SeqAt.EqAt.tuple_str k t hl hu0
      | vl ys => obtain ⟨c, us, rfl, _, r1, q1⟩ := rb; cases ry; obtain ⟨its, _, _, h⟩ := lst_isL I r1; exact SeqAt.EqAt.tuple_list hl h hu0
      | tup ys =>
        have rb' := rb
        obtain ⟨l', us', rfl, r2, q2⟩ := rb
        cases ry
        obtain ⟨its', rv', il', hl'⟩ := tup_isT I r2
        by_cases hll : l = l'
        · subst hll
          have e := rep_inj (n + 1) (.tup xs) (.tup ys) _ fa fb ra' rb'
          rw [e, eqv_refl (n + 1) _ fb]
          exact SeqAt.EqAt.same _
        · have n1 := Reps.length q1
          have n2 := Reps.length q2
          have e : eqv (.tup xs) (.tup ys) = ((List.range (min its.toArray.size its'.toArray.size)).all (pairAt xs ys) && its.toArray.size == its'.toArray.size) := by
            rw [eqv, ← eqvs_eq xs ys, List.size_toArray, List.size_toArray, il, il', n1, n2]
          rw [e]
          refine SeqAt.EqAt.of_refs hll (SeqAt.RcAt.tuples hl hl' hu0 fun j j1 j2 => ?_)
          obtain ⟨v1, a1, b1⟩ := reps_at q1 rv j1
          obtain ⟨v2, a2, b2⟩ := reps_at q2 rv' j2
          have fa' : flats n xs = true := by simpa [flat] using fa
          have fb' : flats n ys = true := by simpa [flat] using fb
          have m1 : j < its.length := by simpa using j1
          have m2 : j < its'.length := by simpa using j2
          exact eq_flat I n _ _ A.in1 v1 v2 _ _ hu1 (flats_at fa' (by omega)) (flats_at fb' (by omega)) a1 b1 a2 b2
    | vl xs =>
      have ra' := ra
      obtain ⟨l, us, rfl, _, r1, q1⟩ := ra
      cases rx
      obtain ⟨its, rv, il, hl⟩ := lst_isL I r1
      cases b with
      | loc _ => simp [flat] at fb
      | fn _ => simp [flat] at fb
      | vd _ => simp [flat] at fb
      | non => cases rb; cases ry; exact SeqAt.EqAt.list_none hl hu0
      | bl k => cases rb; cases ry; exact SeqAt.EqAt.list_bool k hl hu0
      | int k => cases rb; obtain ⟨t, rfl⟩ := ry; exact SeqAt.EqAt.list_int k t hl hu0
      | str k => cases rb; obtain ⟨t, rfl⟩ := ry; exact SeqAt.EqAt.list_str k t hl hu0
      | tup ys => obtain ⟨c, us, rfl, r1, q1⟩ := rb; cases ry; obtain ⟨its, _, _, h⟩ := tup_isT I r1; exact SeqAt.EqAt.list_tuple hl h hu0
      | vl ys =>
        have rb' := rb
        obtain ⟨l', us', rfl, _, r2, q2⟩ := rb
        cases ry
        obtain ⟨its', rv', il', hl'⟩ := lst_isL I r2
        have n1 := Reps.length q1
        have n2 := Reps.length q2
        by_cases hll : l = l'
        · subst hll
          have e := rep_inj (n + 1) (.vl xs) (.vl ys) _ fa fb ra' rb'
          rw [e, eqv_refl (n + 1) _ fb]
          exact SeqAt.EqAt.same _
        · rw [eqv]
          by_cases hsz : xs.length = ys.length
          · have e : eqvs xs ys = (List.range its.toArray.size).all (pairAt xs ys) := by rw [← eqvs_same hsz, List.size_toArray, il, n1]
            rw [e]
            refine SeqAt.EqAt.of_refs hll (SeqAt.RcAt.lists hl hl' (by rw [List.size_toArray, List.size_toArray]; omega) hu0 fun j j1 j2 => ?_)
            obtain ⟨v1, a1, b1⟩ := reps_at q1 rv j1
            obtain ⟨v2, a2, b2⟩ := reps_at q2 rv' j2
            have fa' : flats n xs = true := by simpa [flat] using fa
            have fb' : flats n ys = true := by simpa [flat] using fb
            have m1 : j < its.length := by simpa using j1
            have m2 : j < its'.length := by simpa using j2
            exact eq_flat I n _ _ A.in1 v1 v2 _ _ hu1 (flats_at fa' (by omega)) (flats_at fb' (by omega)) a1 b1 a2 b2
          · rw [eqvs_len hsz]
            exact SeqAt.EqAt.of_refs hll (SeqAt.RcAt.lists_lengths hl hl' (by simp [List.size_toArray]; omega) hu0)
end
end Lt
namespace Lt
open PySem L2 PySem.Spec PyProof.Rows
section
variable {G : AMap} {H H1 H2 : Hp} {w w1 w2 : Wd} {W : XK} {S : Sto}
variable {X : Cx} {pins : List (Addr × Obj)} {σ : L2.St} {s : Shared}
theorem rc_flat (I : Inv X pins σ H s) (n : Nat) (a b : D) (A : Around) (x y : V) (v u : Value) (hu : A.units + n + 1 < cLine) (fa : flat (n + 1) a = true) (fb : flat (n + 1) b = true) (ra : Rep G H w a x) (rx : RelV x v) (rb : Rep G H w b y) (ry : RelV y u) : SeqAt.RcAt A s v u (eqv a b) := by
  have hu0 : A.units < cLine := by omega
  cases a with
  | loc _ => simp [flat] at fa
  | fn _ => simp [flat] at fa
  | vd _ => simp [flat] at fa
  | non =>
    cases ra; cases rx
    cases b with
    | loc _ => simp [flat] at fb
    | fn _ => simp [flat] at fb
    | vd _ => simp [flat] at fb
    | non => cases rb; cases ry; exact SeqAt.RcAt.none_none
    | bl k => cases rb; cases ry; exact SeqAt.RcAt.none_bool k
    | int k => cases rb; obtain ⟨t, rfl⟩ := ry; exact SeqAt.RcAt.none_int k t
    | str k => cases rb; obtain ⟨t, rfl⟩ := ry; exact SeqAt.RcAt.none_str k t
    | tup ys => obtain ⟨c, us, rfl, r1, q1⟩ := rb; cases ry; obtain ⟨its, _, _, h⟩ := tup_isT I r1; exact SeqAt.RcAt.none_tuple h hu0
    | vl ys => obtain ⟨c, us, rfl, _, r1, q1⟩ := rb; cases ry; obtain ⟨its, _, _, h⟩ := lst_isL I r1; exact SeqAt.RcAt.none_list h hu0
  | bl i =>
    cases ra; cases rx
    cases b with
    | loc _ => simp [flat] at fb
    | fn _ => simp [flat] at fb
    | vd _ => simp [flat] at fb
    | non => cases rb; cases ry; exact SeqAt.RcAt.bool_none i
    | bl k => cases rb; cases ry; exact SeqAt.RcAt.bool_bool i k
    | int k => cases rb; obtain ⟨t, rfl⟩ := ry; exact SeqAt.RcAt.bool_int i k t
    | str k => cases rb; obtain ⟨t, rfl⟩ := ry; exact SeqAt.RcAt.bool_str i k t
    | tup ys => obtain ⟨c, us, rfl, r1, q1⟩ := rb; cases ry; obtain ⟨its, _, _, h⟩ := tup_isT I r1; exact SeqAt.RcAt.bool_tuple i h hu0
    | vl ys => obtain ⟨c, us, rfl, _, r1, q1⟩ := rb; cases ry; obtain ⟨its, _, _, h⟩ := lst_isL I r1; exact SeqAt.RcAt.bool_list i h hu0
  | int i =>
    cases ra; obtain ⟨t', rfl⟩ := rx
    cases b with
    | loc _ => simp [flat] at fb
    | fn _ => simp [flat] at fb
    | vd _ => simp [flat] at fb
    | non => cases rb; cases ry; exact SeqAt.RcAt.int_none i t'
    | bl k => cases rb; cases ry; exact SeqAt.RcAt.int_bool i t' k
    | int k => cases rb; obtain ⟨t, rfl⟩ := ry; exact SeqAt.RcAt.int_int i t' k t
    | str k => cases rb; obtain ⟨t, rfl⟩ := ry; exact SeqAt.RcAt.int_str i t' k t
    | tup ys => obtain ⟨c, us, rfl, r1, q1⟩ := rb; cases ry; obtain ⟨its, _, _, h⟩ := tup_isT I r1; exact SeqAt.RcAt.int_tuple i t' h hu0
    | vl ys => obtain ⟨c, us, rfl, _, r1, q1⟩ := rb; cases ry; obtain ⟨its, _, _, h⟩ := lst_isL I r1; exact SeqAt.RcAt.int_list i t' h hu0
  | str i =>
    cases ra; obtain ⟨t', rfl⟩ := rx
    cases b with
    | loc _ => simp [flat] at fb
    | fn _ => simp [flat] at fb
    | vd _ => simp [flat] at fb
    | non => cases rb; cases ry; exact SeqAt.RcAt.str_none i t'
    | bl k => cases rb; cases ry; exact SeqAt.RcAt.str_bool i t' k
    | int k => cases rb; obtain ⟨t, rfl⟩ := ry; exact SeqAt.RcAt.str_int i t' k t
    | str k => cases rb; obtain ⟨t, rfl⟩ := ry; exact SeqAt.RcAt.str_str i t' k t
    | tup ys => obtain ⟨c, us, rfl, r1, q1⟩ := rb; cases ry; obtain ⟨its, _, _, h⟩ := tup_isT I r1; exact SeqAt.RcAt.str_tuple i t' h hu0
    | vl ys => obtain ⟨c, us, rfl, _, r1, q1⟩ := rb; cases ry; obtain ⟨its, _, _, h⟩ := lst_isL I r1; exact SeqAt.RcAt.str_list i t' h hu0
  | tup xs =>
    obtain ⟨l, us, rfl, r1, q1⟩ := ra
    cases rx
    obtain ⟨its, rv, il, hl⟩ := tup_isT I r1
    cases b with
    | loc _ => simp [flat] at fb
    | fn _ => simp [flat] at fb
    | vd _ => simp [flat] at fb
    | non => cases rb; cases ry; exact SeqAt.RcAt.tuple_none hl hu0
    | bl k => cases rb; cases ry; exact SeqAt.RcAt.tuple_bool k hl hu0
    | int k => cases rb; obtain ⟨t, rfl⟩ := ry; exact SeqAt.RcAt.tuple_int k t hl hu0
    | str k => cases rb; obtain ⟨t, rfl⟩ := ry; exact SeqAt.RcAt.tuple_str k t hl hu0
    | vl ys => obtain ⟨c, us, rfl, _, r1, q1⟩ := rb; cases ry; obtain ⟨its, _, _, h⟩ := lst_isL I r1; exact SeqAt.RcAt.tuple_list hl h hu0
    | tup ys =>
      obtain ⟨l', us', rfl, r2, q2⟩ := rb
      cases ry
      obtain ⟨its', rv', il', hl'⟩ := tup_isT I r2
      have n1 := Reps.length q1
      have n2 := Reps.length q2
      have each : ∀ j (j1 : j < its.toArray.size) (j2 : j < its'.toArray.size), SeqAt.EqAt A.in1 s its.toArray[j] its'.toArray[j] (pairAt xs ys j) := fun j j1 j2 => by
        obtain ⟨v1, a1, b1⟩ := reps_at q1 rv j1
        obtain ⟨v2, a2, b2⟩ := reps_at q2 rv' j2
        have fa' : flats n xs = true := by simpa [flat] using fa
        have fb' : flats n ys = true := by simpa [flat] using fb
        have m1 : j < its.length := by simpa using j1
        have m2 : j < its'.length := by simpa using j2
        cases n with
        | zero =>
          have z := flats_at (j := j) fa' (by omega)
          simp [flat] at z
        | succ n => exact eq_flat I (n + 1) _ _ A.in1 v1 v2 _ _ (by show A.units + 1 + (n + 1) < cLine; omega) (flats_at fa' (by omega)) (flats_at fb' (by omega)) a1 b1 a2 b2
      have e : eqv (.tup xs) (.tup ys) = ((List.range (min its.toArray.size its'.toArray.size)).all (pairAt xs ys) && its.toArray.size == its'.toArray.size) := by
        rw [eqv, ← eqvs_eq xs ys, List.size_toArray, List.size_toArray, il, il', n1, n2]
      rw [e]
      exact SeqAt.RcAt.tuples hl hl' hu0 each
  | vl xs =>
    obtain ⟨l, us, rfl, _, r1, q1⟩ := ra
    cases rx
    obtain ⟨its, rv, il, hl⟩ := lst_isL I r1
    cases b with
    | loc _ => simp [flat] at fb
    | fn _ => simp [flat] at fb
    | vd _ => simp [flat] at fb
    | non => cases rb; cases ry; exact SeqAt.RcAt.list_none hl hu0
    | bl k => cases rb; cases ry; exact SeqAt.RcAt.list_bool k hl hu0
    | int k => cases rb; obtain ⟨t, rfl⟩ := ry; exact SeqAt.RcAt.list_int k t hl hu0
    | str k => cases rb; obtain ⟨t, rfl⟩ := ry; exact SeqAt.RcAt.list_str k t hl hu0
    | tup ys => obtain ⟨c, us, rfl, r1, q1⟩ := rb; cases ry; obtain ⟨its, _, _, h⟩ := tup_isT I r1; exact SeqAt.RcAt.list_tuple hl h hu0
    | vl ys =>
      obtain ⟨l', us', rfl, _, r2, q2⟩ := rb
      cases ry
      obtain ⟨its', rv', il', hl'⟩ := lst_isL I r2
      have n1 := Reps.length q1
      have n2 := Reps.length q2
      have each : ∀ j (j1 : j < its.toArray.size) (j2 : j < its'.toArray.size), SeqAt.EqAt A.in1 s its.toArray[j] its'.toArray[j] (pairAt xs ys j) := fun j j1 j2 => by
        obtain ⟨v1, a1, b1⟩ := reps_at q1 rv j1
        obtain ⟨v2, a2, b2⟩ := reps_at q2 rv' j2
        have fa' : flats n xs = true := by simpa [flat] using fa
        have fb' : flats n ys = true := by simpa [flat] using fb
        have m1 : j < its.length := by simpa using j1
        have m2 : j < its'.length := by simpa using j2
        cases n with
        | zero =>
          have z := flats_at (j := j) fa' (by omega)
          simp [flat] at z
        | succ n => exact eq_flat I (n + 1) _ _ A.in1 v1 v2 _ _ (by show A.units + 1 + (n + 1) < cLine; omega) (flats_at fa' (by omega)) (flats_at fb' (by omega)) a1 b1 a2 b2
      rw [eqv]
      by_cases hsz : xs.length = ys.length
      · have e : eqvs xs ys = (List.range its.toArray.size).all (pairAt xs ys) := by rw [← eqvs_same hsz, List.size_toArray, il, n1]
        rw [e]
        exact SeqAt.RcAt.lists hl hl' (by rw [List.size_toArray, List.size_toArray]; omega) hu0 each
      · rw [eqvs_len hsz]
        exact SeqAt.RcAt.lists_lengths hl hl' (by simp [List.size_toArray]; omega) hu0
theorem ne_flat (I : Inv X pins σ H s) (n : Nat) (a b : D) (A : Around) (x y : V) (v u : Value) (hu : A.units + n + 1 < cLine) (fa : flat (n + 1) a = true) (fb : flat (n + 1) b = true) (ra : Rep G H w a x) (rx : RelV x v) (rb : Rep G H w b y) (ry : RelV y u) : SeqAt.RcNeAt A s v u (!eqv a b) := by
  have hu0 : A.units < cLine := by omega
  cases a with
  | loc _ => simp [flat] at fa
  | fn _ => simp [flat] at fa
  | vd _ => simp [flat] at fa
  | non =>
    cases ra; cases rx
    cases b with
    | loc _ => simp [flat] at fb
    | fn _ => simp [flat] at fb
    | vd _ => simp [flat] at fb
    | non => cases rb; cases ry; exact SeqAt.RcNeAt.none_none
    | bl k => cases rb; cases ry; exact SeqAt.RcNeAt.none_bool k
    | int k => cases rb; obtain ⟨t, rfl⟩ := ry; exact SeqAt.RcNeAt.none_int k t
    | str k => cases rb; obtain ⟨t, rfl⟩ := ry; exact SeqAt.RcNeAt.none_str k t
    | tup ys => obtain ⟨c, us, rfl, r1, q1⟩ := rb; cases ry; obtain ⟨its, _, _, h⟩ := tup_isT I r1; exact SeqAt.RcNeAt.none_tuple h hu0
    | vl ys => obtain ⟨c, us, rfl, _, r1, q1⟩ := rb; cases ry; obtain ⟨its, _, _, h⟩ := lst_isL I r1; exact SeqAt.RcNeAt.none_list h hu0
  | bl i =>
    cases ra; cases rx
    cases b with
    | loc _ => simp [flat] at fb
    | fn _ => simp [flat] at fb
    | vd _ => simp [flat] at fb
    | non => cases rb; cases ry; exact SeqAt.RcNeAt.bool_none i
    | bl k => cases rb; cases ry; exact SeqAt.RcNeAt.bool_bool i k
    | int k => cases rb; obtain ⟨t, rfl⟩ := ry; exact SeqAt.RcNeAt.bool_int i k t
    | str k => cases rb; obtain ⟨t, rfl⟩ := ry; exact SeqAt.RcNeAt.bool_str i k t
    | tup ys => obtain ⟨c, us, rfl, r1, q1⟩ := rb; cases ry; obtain ⟨its, _, _, h⟩ := tup_isT I r1; exact SeqAt.RcNeAt.bool_tuple i h hu0
    | vl ys => obtain ⟨c, us, rfl, _, r1, q1⟩ := rb; cases ry; obtain ⟨its, _, _, h⟩ := lst_isL I r1; exact SeqAt.RcNeAt.bool_list i h hu0
  | int i =>
    cases ra; obtain ⟨t', rfl⟩ := rx
    cases b with
    | loc _ => simp [flat] at fb
    | fn _ => simp [flat] at fb
    | vd _ => simp [flat] at fb
    | non => cases rb; cases ry; exact SeqAt.RcNeAt.int_none i t'
    | bl k => cases rb; cases ry; exact SeqAt.RcNeAt.int_bool i t' k
    | int k => cases rb; obtain ⟨t, rfl⟩ := ry; exact SeqAt.RcNeAt.int_int i t' k t
    | str k => cases rb; obtain ⟨t, rfl⟩ := ry; exact SeqAt.RcNeAt.int_str i t' k t
    | tup ys => obtain ⟨c, us, rfl, r1, q1⟩ := rb; cases ry; obtain ⟨its, _, _, h⟩ := tup_isT I r1; exact SeqAt.RcNeAt.int_tuple i t' h hu0
    | vl ys => obtain ⟨c, us, rfl, _, r1, q1⟩ := rb; cases ry; obtain ⟨its, _, _, h⟩ := lst_isL I r1; exact SeqAt.RcNeAt.int_list i t' h hu0
  | str i =>
    cases ra; obtain ⟨t', rfl⟩ := rx
    cases b with
    | loc _ => simp [flat] at fb
    | fn _ => simp [flat] at fb
    | vd _ => simp [flat] at fb
    | non => cases rb; cases ry; exact SeqAt.RcNeAt.str_none i t'
    | bl k => cases rb; cases ry; exact SeqAt.RcNeAt.str_bool i t' k
    | int k => cases rb; obtain ⟨t, rfl⟩ := ry; exact SeqAt.RcNeAt.str_int i t' k t
    | str k => cases rb; obtain ⟨t, rfl⟩ := ry; exact SeqAt.RcNeAt.str_str i t' k t
    | tup ys => obtain ⟨c, us, rfl, r1, q1⟩ := rb; cases ry; obtain ⟨its, _, _, h⟩ := tup_isT I r1; exact SeqAt.RcNeAt.str_tuple i t' h hu0
    | vl ys => obtain ⟨c, us, rfl, _, r1, q1⟩ := rb; cases ry; obtain ⟨its, _, _, h⟩ := lst_isL I r1; exact SeqAt.RcNeAt.str_list i t' h hu0
  | tup xs =>
    obtain ⟨l, us, rfl, r1, q1⟩ := ra
    cases rx
    obtain ⟨its, rv, il, hl⟩ := tup_isT I r1
    cases b with
    | loc _ => simp [flat] at fb
    | fn _ => simp [flat] at fb
    | vd _ => simp [flat] at fb
    | non => cases rb; cases ry; exact SeqAt.RcNeAt.tuple_none hl hu0
    | bl k => cases rb; cases ry; exact SeqAt.RcNeAt.tuple_bool k hl hu0
    | int k => cases rb; obtain ⟨t, rfl⟩ := ry; exact SeqAt.RcNeAt.tuple_int k t hl hu0
    | str k => cases rb; obtain ⟨t, rfl⟩ := ry; exact SeqAt.RcNeAt.tuple_str k t hl hu0
    | vl ys => obtain ⟨c, us, rfl, _, r1, q1⟩ := rb; cases ry; obtain ⟨its, _, _, h⟩ := lst_isL I r1; exact SeqAt.RcNeAt.tuple_list hl h hu0
    | tup ys =>
      obtain ⟨l', us', rfl, r2, q2⟩ := rb
      cases ry
      obtain ⟨its', rv', il', hl'⟩ := tup_isT I r2
      have n1 := Reps.length q1
      have n2 := Reps.length q2
      have each : ∀ j (j1 : j < its.toArray.size) (j2 : j < its'.toArray.size), SeqAt.EqAt A.in1 s its.toArray[j] its'.toArray[j] (pairAt xs ys j) := fun j j1 j2 => by
        obtain ⟨v1, a1, b1⟩ := reps_at q1 rv j1
        obtain ⟨v2, a2, b2⟩ := reps_at q2 rv' j2
        have fa' : flats n xs = true := by simpa [flat] using fa
        have fb' : flats n ys = true := by simpa [flat] using fb
        have m1 : j < its.length := by simpa using j1
        have m2 : j < its'.length := by simpa using j2
        cases n with
        | zero =>
          have z := flats_at (j := j) fa' (by omega)
          simp [flat] at z
        | succ n => exact eq_flat I (n + 1) _ _ A.in1 v1 v2 _ _ (by show A.units + 1 + (n + 1) < cLine; omega) (flats_at fa' (by omega)) (flats_at fb' (by omega)) a1 b1 a2 b2
      have e : eqv (.tup xs) (.tup ys) = ((List.range (min its.toArray.size its'.toArray.size)).all (pairAt xs ys) && its.toArray.size == its'.toArray.size) := by
        rw [eqv, ← eqvs_eq xs ys, List.size_toArray, List.size_toArray, il, il', n1, n2]
      rw [e]
      exact SeqAt.RcNeAt.tuples hl hl' hu0 each
  | vl xs =>
    obtain ⟨l, us, rfl, _, r1, q1⟩ := ra
    cases rx
    obtain ⟨its, rv, il, hl⟩ := lst_isL I r1
    cases b with
    | loc _ => simp [flat] at fb
    | fn _ => simp [flat] at fb
    | vd _ => simp [flat] at fb
    | non => cases rb; cases ry; exact SeqAt.RcNeAt.list_none hl hu0
    | bl k => cases rb; cases ry; exact SeqAt.RcNeAt.list_bool k hl hu0
    | int k => cases rb; obtain ⟨t, rfl⟩ := ry; exact SeqAt.RcNeAt.list_int k t hl hu0
    | str k => cases rb; obtain ⟨t, rfl⟩ := ry; exact SeqAt.RcNeAt.list_str k t hl hu0
    | tup ys => obtain ⟨c, us, rfl, r1, q1⟩ := rb; cases ry; obtain ⟨its, _, _, h⟩ := tup_isT I r1; exact SeqAt.RcNeAt.list_tuple hl h hu0
    | vl ys =>
      obtain ⟨l', us', rfl, _, r2, q2⟩ := rb
      cases ry
      obtain ⟨its', rv', il', hl'⟩ := lst_isL I r2
      have n1 := Reps.length q1
      have n2 := Reps.length q2
      have each : ∀ j (j1 : j < its.toArray.size) (j2 : j < its'.toArray.size), SeqAt.EqAt A.in1 s its.toArray[j] its'.toArray[j] (pairAt xs ys j) := fun j j1 j2 => by
        obtain ⟨v1, a1, b1⟩ := reps_at q1 rv j1
        obtain ⟨v2, a2, b2⟩ := reps_at q2 rv' j2
        have fa' : flats n xs = true := by simpa [flat] using fa
        have fb' : flats n ys = true := by simpa [flat] using fb
        have m1 : j < its.length := by simpa using j1
        have m2 : j < its'.length := by simpa using j2
        cases n with
        | zero =>
          have z := flats_at (j := j) fa' (by omega)
          simp [flat] at z
        | succ n => exact eq_flat I (n + 1) _ _ A.in1 v1 v2 _ _ (by show A.units + 1 + (n + 1) < cLine; omega) (flats_at fa' (by omega)) (flats_at fb' (by omega)) a1 b1 a2 b2
      rw [eqv]
      by_cases hsz : xs.length = ys.length
      · have e : eqvs xs ys = (List.range its.toArray.size).all (pairAt xs ys) := by rw [← eqvs_same hsz, List.size_toArray, il, n1]
        rw [e]
        exact SeqAt.RcNeAt.lists hl hl' (by rw [List.size_toArray, List.size_toArray]; omega) hu0 each
      · rw [eqvs_len hsz]
        exact SeqAt.RcNeAt.lists_lengths hl hl' (by simp [List.size_toArray]; omega) hu0
end
end Lt
namespace Lt
open PySem L2 PySem.Spec PyProof.Rows
section
variable {prog : Program} {wo : World} {K : Type} [DecidableEq K] {knd : HeapKind prog wo K} {A : Around} {E : Value → Shared → Prop} {s : Shared}
/-- entry by entry: is it there, and are the values equal -/
inductive HitsT (A : Around) (s : Shared) (ys : List (K × Addr × Value)) : List (K × Addr × Value) → Bool → Prop
  | nil : HitsT A s ys [] true
  | miss {k : K} {p : Addr × Value} {r : List (K × Addr × Value)} : atKey ys k = none → HitsT A s ys ((k, p) :: r) false
  | hit {k : K} {p q : Addr × Value} {r : List (K × Addr × Value)} {e b : Bool} : atKey ys k = some q → SeqAt.EqAt A s p.2 q.2 e → HitsT A s ys r b → HitsT A s ys ((k, p) :: r) (e && b)
theorem HitsT.inv {ys : List (K × Addr × Value)} {k : K} {p : Addr × Value} {r : List (K × Addr × Value)} {b : Bool} (h : HitsT A s ys ((k, p) :: r) b) :
    (atKey ys k = none ∧ b = false) ∨ ∃ q e b', atKey ys k = some q ∧ SeqAt.EqAt A s p.2 q.2 e ∧ HitsT A s ys r b' ∧ b = (e && b') := by
  cases h with
  | miss h1 => exact .inl ⟨h1, rfl⟩
  | hit h1 h2 h3 => exact .inr ⟨_, _, _, h1, h2, h3, rfl⟩
theorem pairsT {nm : String} {a b : Addr} {xs ys : List (K × Addr × Value)} {r : Bool} {Q : Bool → Shared → Prop} (hu : knd.room A) (ha : (a == sysModules) = false) (hb : (b == sysModules) = false)
    (da : s.heap.DictOfH knd a xs) (db : s.heap.DictOfH knd b ys) (hits : xs.length = ys.length → HitsT A s ys xs r) (h : Q (xs.length == ys.length && r) s) :
    wpAny (model prog wo) A (Builtin.Dict.samePairs nm a b) Q E s := by
  obtain ⟨oa, es, ep, ga, _, hda, hea, hia, hna⟩ := da
  obtain ⟨ob, fs, ep', gb, _, hdb, heb, hib, hnb⟩ := db
  have la : xs.length = es.size := (size_of_entries hea).symm
  have lb : ys.length = fs.size := (size_of_entries heb).symm
  rw [la, lb] at h
  unfold Builtin.Dict.samePairs Builtin.Dict.showsAll
  rw [if_neg (show ¬ (a == sysModules) = true by rw [ha]; simp), if_neg (show ¬ (b == sysModules) = true by rw [hb]; simp)]
  refine wpAny_bind (wpAny_pure (wpAny_bind (wpAny_pure (wpAny_bind (wpAny_dictEntries ga hda ?_)))))
  dsimp only
  refine wpAny_bind (wpAny_dictEntries gb hdb ?_)
  by_cases hz : es.size = fs.size
  case neg =>
    rw [if_pos (by simpa using hz)]
    rw [show (es.size == fs.size) = false by simpa using hz, Bool.false_and] at h
    exact wpAny_bind (wpAny_rule (wpAny_pure h))
  case pos =>
    replace h : Q r s := by simpa [hz] using h
    replace hits := hits (by rw [la, lb]; exact hz)
    rw [if_neg (by rw [hz]; simp)]
    refine wpAny_bind (wpAny_dictEpoch ga hda (wpAny_bind ?_))
    rw [Std.Legacy.Range.forIn_eq_forIn_range']
    simp only [Std.Legacy.Range.size, Nat.sub_zero, Nat.add_sub_cancel, Nat.div_one]
    refine wpAny_forIn_list _ (fun left q s' => s' = s ∧ q = (none, ()) ∧ ∃ i, left = List.range' i (es.size - i) ∧ i ≤ es.size ∧ HitsT A s ys (xs.drop i) r) _ ?_ ?_ _ _ ⟨rfl, rfl, 0, by simp, Nat.zero_le _, hits⟩
    · rintro n left q s' ⟨rfl, rfl, i, hr, hi, pre⟩
      have lt : i < es.size := by
        rcases Nat.lt_or_ge i es.size with z | z
        · exact z
        · rw [Nat.sub_eq_zero_of_le z] at hr; simp at hr
      have e1 : es.size - i = (es.size - (i + 1)) + 1 := by omega
      rw [e1, List.range'_succ] at hr
      injection hr with h1 h2
      subst h1
      have lx : n < xs.length := by rw [la]; exact lt
      have en : es[n]? = some (entryOfKey knd xs[n]) := by rw [entry_at hea, List.getElem?_eq_getElem lx]; rfl
      refine wpAny_bind (wpAny_dictEntries ga hda ?_)
      rw [en]
      obtain ⟨k, p, ek⟩ : ∃ k p, xs[n] = (k, p) := ⟨_, _, rfl⟩
      have dr : xs.drop n = (k, p) :: xs.drop (n + 1) := by rw [← ek]; exact List.drop_eq_getElem_cons lx
      have kis : knd.is s'.heap k p.1 := by
        have := hia xs[n] (List.getElem_mem lx)
        rw [ek] at this
        exact this
      rw [dr] at pre
      rw [ek]
      show wpAny _ _ (holding [(entryOfKey knd (k, p)).key, (entryOfKey knd (k, p)).val] _ >>= _) _ _ _
      refine wpAny_bind (wpAny_holding (wpAny_bind ?_))
      show wpAny _ _ (dictFind b (.ref p.1) (knd.hash k)) _ _ _
      refine wpAny_dictFind_heap hu kis gb hdb heb hib hnb (fun no => ?_) (fun j q hj => ?_)
      · have hn : atKey ys k = none := atKey_none_of_get no
        rcases pre.inv with ⟨_, er⟩ | ⟨q, _, _, hq, _⟩
        · rw [er] at h
          refine wpAny_pure ?_
          show wpAny _ _ (if (!false) = true then _ else _) _ _ _
          rw [if_pos (by decide)]
          exact wpAny_pure (wpAny_pure h)
        · rw [hn] at hq; cases hq
      · have hs : atKey ys k = some q := atKey_of_get hnb hj
        have ej : fs[j]? = some (entryOfKey knd (k, q)) := by rw [entry_at heb, hj]; rfl
        refine wpAny_bind (wpAny_dictEntries gb hdb ?_)
        rw [ej]
        rcases pre.inv with ⟨hn, _⟩ | ⟨q', e, b', hq, he, hrr, er⟩
        · rw [hn] at hs; cases hs
        · rw [hs] at hq
          cases hq
          refine wpAny_holding (he _ _ _ _ ?_)
          cases e with
          | false =>
            rw [er, Bool.false_and] at h
            show wpAny _ _ (if (!false) = true then _ else _) _ _ _
            rw [if_pos (by decide)]
            exact wpAny_pure (wpAny_pure h)
          | true =>
            rw [Bool.true_and] at er
            rw [← er] at hrr
            show wpAny _ _ (if (!true) = true then _ else _) _ _ _
            rw [if_neg (by decide)]
            refine wpAny_bind (wpAny_dictEpoch ga hda ?_)
            rw [if_neg (by simp)]
            exact wpAny_pure ⟨rfl, rfl, n + 1, h2, lt, hrr⟩
    · rintro q s' ⟨rfl, rfl, i, hr, hi, pre⟩
      have hin : i = es.size := by
        rcases Nat.lt_or_ge i es.size with z | z
        · have e1 : es.size - i = (es.size - (i + 1)) + 1 := by omega
          rw [e1, List.range'_succ] at hr; cases hr
        · exact Nat.le_antisymm hi z
      refine wpAny_pure ?_
      rw [hin, ← la, List.drop_length] at pre
      cases pre
      exact h
theorem eqDictsT {a b : Addr} {xs ys : List (K × Addr × Value)} {r : Bool} (hr : knd.room A.in1) (ha : (a == sysModules) = false) (hb : (b == sysModules) = false)
    (da : s.heap.DictOfH knd a xs) (db : s.heap.DictOfH knd b ys) (hu : A.units < cLine) (hits : xs.length = ys.length → HitsT A.in1 s ys xs r) {Q : Value → Shared → Prop} (h : Q (.bool (xs.length == ys.length && r)) s) :
    wpAny (model prog wo) A (richCompare .Eq (.ref a) (.ref b)) Q E s := by
  refine wpAny_richCompare_same_room (op := .Eq) da.typeIs db.typeIs PySem.F.slot_dict_eq (wpAny_call_entry PySem.F.slot_dict_eq da.typeIs PySem.F.entry_dict_eq ?_ (PySem.F.args_dict_eq_2 _ _)) hu
  show wpAny _ _ (Builtin.Dict.dictSlotArgs "__eq__" ⟨[.ref a, .ref b], []⟩ >>= _) _ _ s
  unfold Builtin.Dict.dictSlotArgs
  refine wpAny_bind (wpAny_bind (wpAny_notOrdered_dict da.typeIs ?_))
  show wpAny _ _ (pure (Value.ref a, Value.ref b)) _ _ s
  refine wpAny_pure (wpAny_bind (wpAny_isInstance (T := "dict") db.typeIs PySem.F.sub_dict_dict ?_))
  simp only [Bool.not_true, Bool.false_eq_true, if_false]
  refine wpAny_bind (wpAny_pure (wpAny_bind (wpAny_pure (wpAny_bind (pairsT hr ha hb da db hits (wpAny_pure ⟨_, rfl, ?_, ?_⟩))))))
  · exact fun x => nomatch x
  · simpa using h
theorem neDictsT {a b : Addr} {xs ys : List (K × Addr × Value)} {r : Bool} (hr : knd.room A.in1) (ha : (a == sysModules) = false) (hb : (b == sysModules) = false)
    (da : s.heap.DictOfH knd a xs) (db : s.heap.DictOfH knd b ys) (hu : A.units < cLine) (hits : xs.length = ys.length → HitsT A.in1 s ys xs r) {Q : Value → Shared → Prop} (h : Q (.bool (!(xs.length == ys.length && r))) s) :
    wpAny (model prog wo) A (richCompare .NotEq (.ref a) (.ref b)) Q E s := by
  refine wpAny_richCompare_same_room (op := .NotEq) da.typeIs db.typeIs PySem.F.slot_dict_ne (wpAny_call_entry PySem.F.slot_dict_ne da.typeIs PySem.F.entry_dict_ne ?_ (PySem.F.args_dict_ne_2 _ _)) hu
  show wpAny _ _ (Builtin.Dict.dictSlotArgs "__ne__" ⟨[.ref a, .ref b], []⟩ >>= _) _ _ s
  unfold Builtin.Dict.dictSlotArgs
  refine wpAny_bind (wpAny_bind (wpAny_notOrdered_dict da.typeIs ?_))
  show wpAny _ _ (pure (Value.ref a, Value.ref b)) _ _ s
  refine wpAny_pure (wpAny_bind (wpAny_isInstance (T := "dict") db.typeIs PySem.F.sub_dict_dict ?_))
  simp only [Bool.not_true, Bool.false_eq_true, if_false]
  refine wpAny_bind (wpAny_pure (wpAny_bind (wpAny_pure (wpAny_bind (pairsT hr ha hb da db hits (wpAny_pure ⟨_, rfl, ?_, ?_⟩))))))
  · exact fun x => nomatch x
  · simpa using h
end
end Lt
namespace Lt
open PySem L2 PySem.Spec PyProof.Rows
theorem kD_inj {a b : Key} (h : kD a = kD b) : a = b := by
  cases a <;> cases b <;> simp [kD] at h <;> simp [h]
theorem kDs_inj : ∀ {a b : List Key}, a.map kD = b.map kD → a = b
  | [], [], _ => rfl
  | [], _ :: _, h => by simp at h
  | _ :: _, [], h => by simp at h
  | x :: xs, y :: ys, h => by
    simp only [List.map_cons, List.cons.injEq] at h
    rw [kD_inj h.1, kDs_inj h.2]
theorem keyK_ex {d : D} (h : keyK d = true) : ∃ k, d = kD k := by
  cases d with
  | int i => exact ⟨.inl i, rfl⟩
  | str x => exact ⟨.inr x, rfl⟩
  | _ => simp [keyK] at h
theorem keyKs_ex : ∀ {xs : List D}, xs.all keyK = true → ∃ ks : List Key, xs = ks.map kD
  | [], _ => ⟨[], rfl⟩
  | x :: xs, h => by
    simp only [List.all_cons, Bool.and_eq_true] at h
    obtain ⟨k, rfl⟩ := keyK_ex h.1
    obtain ⟨ks, rfl⟩ := keyKs_ex h.2
    exact ⟨k :: ks, rfl⟩
theorem keyT_ex {d : D} (h : keyT d = true) : ∃ ks : List Key, d = .tup (ks.map kD) := by
  cases d with
  | tup xs =>
    obtain ⟨ks, rfl⟩ := keyKs_ex h
    exact ⟨ks, rfl⟩
  | _ => simp [keyT] at h
section
variable {G : AMap} {H H1 H2 : Hp} {w w1 w2 : Wd} {W : XK} {S : Sto}
variable {X : Cx} {pins : List (Addr × Obj)} {σ : L2.St} {s : Shared}
theorem rep_key {k : Key} {v : V} (r : Rep G H w (kD k) v) : v = kV k := by
  cases k <;> exact r
theorem reps_key : ∀ {ks : List Key} {us : List V}, Reps G H w (ks.map kD) us → us = ks.map kV
  | [], _, h => h
  | k :: ks, _, ⟨u, r, e, a, b⟩ => by rw [e, rep_key a, reps_key b]; rfl
theorem rep_tkey {ks : List Key} {v : V} (st : StoR G w S H) (r : Rep G H w (.tup (ks.map kD)) v) (ok : kOk (.tup (ks.map kD)) = true) : ∃ b, v = .ref b ∧ H b = some (.tup (ks.map kV)) := by
  obtain ⟨b, us, e, rd, q⟩ := r
  rw [reps_key q] at rd
  refine ⟨b, e, ?_⟩
  rcases rd with h | ⟨o, h⟩
  · exact h
  · exfalso
    rcases st.fr b o _ h with z | z
    all_goals
      cases ks with
      | nil => simp at z
      | cons k r =>
        cases r with
        | nil =>
          cases k with
          | inl i => simp [kV] at z
          | inr x =>
            simp only [List.map_cons, List.map_nil, kV, List.cons.injEq, V.str.injEq, and_true] at z
            subst z
            revert ok
            decide +kernel
        | cons _ _ => simp at z
/-- a look-up among tuple keys -/
theorem repT_get : ∀ {kvs : List (D × D)} {L : List (List Key × V)} (ks : List Key), RepT G H w kvs L → (∀ d, dget kvs (.tup (ks.map kD)) = some d → ∃ v, valV L ks = some v ∧ Rep G H w d v) ∧ (dget kvs (.tup (ks.map kD)) = none → valV L ks = none)
  | [], L, ks, h => by
    have h : L = [] := h
    subst h
    exact ⟨fun d e => by simp [dget] at e, fun _ => rfl⟩
  | (k, d) :: r, _, ks, ⟨ks', u, L', e1, e2, a, b⟩ => by
    subst e1 e2
    have ih := repT_get ks b
    by_cases hk : ks' = ks
    · subst hk
      refine ⟨fun d' e => ⟨u, valV_pos rfl, ?_⟩, fun e => ?_⟩
      · simp [dget] at e
        rw [← e]; exact a
      · simp [dget] at e
    · have hne : ¬ (D.tup (ks'.map kD) = D.tup (ks.map kD)) := fun z => hk (kDs_inj (by injection z))
      have e1 : dget ((D.tup (ks'.map kD), d) :: r) (.tup (ks.map kD)) = dget r (.tup (ks.map kD)) := by simp [dget, List.find?_cons, hne]
      rw [e1, valV_neg hk]
      exact ih
theorem repK_get : ∀ {kvs : List (D × D)} {L : List (Key × V)} (k : Key), RepK G H w kvs L → (∀ d, dget kvs (kD k) = some d → ∃ v, valV L k = some v ∧ Rep G H w d v) ∧ (dget kvs (kD k) = none → valV L k = none)
  | [], L, k, h => by
    have h : L = [] := h
    subst h
    exact ⟨fun d e => by simp [dget] at e, fun _ => rfl⟩
  | (k', d) :: r, _, k, ⟨k2, u, L', e1, e2, a, b⟩ => by
    subst e1 e2
    have ih := repK_get k b
    by_cases hk : k2 = k
    · subst hk
      refine ⟨fun d' e => ⟨u, valV_pos rfl, ?_⟩, fun e => ?_⟩
      · simp [dget] at e
        rw [← e]; exact a
      · simp [dget] at e
    · have hne : ¬ (kD k2 = kD k) := fun z => hk (kD_inj z)
      have e1 : dget ((kD k2, d) :: r) (kD k) = dget r (kD k) := by simp [dget, List.find?_cons, hne]
      rw [e1, valV_neg hk]
      exact ih
theorem repT_keys : ∀ {kvs : List (D × D)} {L : List (List Key × V)}, RepT G H w kvs L → (kvs.all fun p => keyT p.1) = true
  | [], _, _ => rfl
  | (k, d) :: r, _, ⟨ks, u, L', e1, e2, a, b⟩ => by
    subst e2
    simp only [List.all_cons, Bool.and_eq_true]
    refine ⟨?_, repT_keys b⟩
    simp only [keyT, List.all_map, List.all_eq_true]
    intro x _
    cases x <;> rfl
theorem repK_keys : ∀ {kvs : List (D × D)} {L : List (Key × V)}, RepK G H w kvs L → (kvs.all fun p => keyK p.1) = true
  | [], _, _ => rfl
  | (k, d) :: r, _, ⟨ks, u, L', e1, e2, a, b⟩ => by
    subst e2
    simp only [List.all_cons, Bool.and_eq_true]
    exact ⟨by cases ks <;> rfl, repK_keys b⟩
theorem RepT.length : ∀ {kvs : List (D × D)} {L : List (List Key × V)}, RepT G H w kvs L → L.length = kvs.length
  | [], _, h => by
    have h : _ = [] := h
    subst h; rfl
  | _ :: _, _, ⟨_, _, _, e1, _, _, b⟩ => by subst e1; simp [RepT.length b]
theorem RepK.length : ∀ {kvs : List (D × D)} {L : List (Key × V)}, RepK G H w kvs L → L.length = kvs.length
  | [], _, h => by
    have h : _ = [] := h
    subst h; rfl
  | _ :: _, _, ⟨_, _, _, e1, _, _, b⟩ => by subst e1; simp [RepK.length b]
theorem RepM.length : ∀ {kvs : List (D × D)} {L : List (MEnt × V)}, RepM G H w kvs L → L.length = kvs.length
  | [], _, h => by
    have h : _ = [] := h
    subst h; rfl
  | _ :: _, _, ⟨_, _, _, e1, _, _, _, b⟩ => by subst e1; simp [RepM.length b]
theorem keyTK {k : D} (h1 : keyT k = true) (h2 : keyK k = true) : False := by
  cases k <;> simp [keyT, keyK] at h1 h2
/-- the empty dict is a dict of tuple keys, and a dict of the others -/
theorem empty_dT {P : Program} {wo : World} {h : Heap} {a : Addr} (x : h.DictOf (mixKind P wo) a []) : h.DictOfH (tupleKind (mixKind P wo)) a [] := by
  obtain ⟨o, es, ep, h1, h2, h3, h4, h5, h6⟩ := x
  have : es = #[] := by
    have := h5.length
    simp at this
    exact Array.eq_empty_of_size_eq_zero (by simpa using this)
  subst this
  exact ⟨o, #[], ep, h1, h2, h3, rfl, fun _ hx => by simp at hx, List.nodup_nil⟩
theorem empty_dK {P : Program} {wo : World} {h : Heap} {a : Addr} (x : h.DictOfH (tupleKind (mixKind P wo)) a []) : h.DictOf (mixKind P wo) a [] := by
  obtain ⟨o, es, ep, h1, h2, h3, h4, h5, h6⟩ := x
  have : es = #[] := by
    simp at h4
    exact h4
  subst this
  exact ⟨o, #[], ep, h1, h2, h3, fun _ hx => by simp at hx, .nil, List.nodup_nil⟩
/-- the tuple-keyed dict that stands there -/
theorem dicT_at (I : Inv X pins σ H s) {a : Addr} {kvs : List (D × D)} (d : DicV G H w kvs a) (hk : (kvs.all fun p => keyT p.1) = true) :
    (a == sysModules) = false ∧ ∃ L xs, RepT G H w kvs L ∧ KT H L xs ∧ s.heap.DictOfH (tupleKind (mixKind X.prog X.w)) a xs ∧ L.length ≤ sizeLine := by
  rcases d with ⟨L, rd, q⟩ | ⟨L, rd, q⟩ | ⟨L, rd, x, q⟩
  · obtain ⟨z, ha, xs, r, dd⟩ := dt_rd I.hok rd
    exact ⟨ha, L, xs, q, r, dd, z⟩
  · have e : kvs = [] := by
      cases kvs with
      | nil => rfl
      | cons p r =>
        have h2 := repK_keys q
        simp only [List.all_cons, Bool.and_eq_true] at hk h2
        exact (keyTK hk.1 h2.1).elim
    subst e
    have e2 : L = [] := q
    subst e2
    obtain ⟨z, ha, vs, r, dd⟩ := dk_rd I.hok rd
    cases r
    exact ⟨ha, [], [], rfl, .nil, empty_dT dd, Nat.zero_le _⟩
  · exact (mixd_T x hk).elim
theorem dicK_at (I : Inv X pins σ H s) {a : Addr} {kvs : List (D × D)} (d : DicV G H w kvs a) (hk : (kvs.all fun p => keyK p.1) = true) :
    (a == sysModules) = false ∧ ∃ L vs, RepK G H w kvs L ∧ KV L vs ∧ s.heap.DictOf (mixKind X.prog X.w) a vs ∧ L.length ≤ sizeLine := by
  rcases d with ⟨L, rd, q⟩ | ⟨L, rd, q⟩ | ⟨L, rd, x, q⟩
  · have e : kvs = [] := by
      cases kvs with
      | nil => rfl
      | cons p r =>
        have h2 := repT_keys q
        simp only [List.all_cons, Bool.and_eq_true] at hk h2
        exact (keyTK h2.1 hk.1).elim
    subst e
    have e2 : L = [] := q
    subst e2
    obtain ⟨z, ha, xs, r, dd⟩ := dt_rd I.hok rd
    cases r
    exact ⟨ha, [], [], rfl, .nil, empty_dK dd, Nat.zero_le _⟩
  · obtain ⟨z, ha, vs, r, dd⟩ := dk_rd I.hok rd
    exact ⟨ha, L, vs, q, r, dd, z⟩
  · exact (mixd_K x hk).elim
/-- a world in which every address may stand for a value -/
def Wd.all (w : Wd) : Wd := ⟨w.ph, fun _ => True⟩
mutual
theorem Rep.all : ∀ (d : D) (v : V), Rep G H w d v → Rep G H w.all d v
  | .non, _, h => h
  | .bl _, _, h => h
  | .int _, _, h => h
  | .str _, _, h => h
  | .fn _, _, h => h
  | .tup xs, v, ⟨a, us, e1, r, q⟩ => ⟨a, us, e1, r, Reps.all xs us q⟩
  | .vl xs, v, ⟨a, us, e1, f, r, q⟩ => ⟨a, us, e1, trivial, r, Reps.all xs us q⟩
  | .vd kvs, v, ⟨a, e1, f, q⟩ => ⟨a, e1, trivial, q.elim (fun ⟨L, r, t⟩ => .inl ⟨L, r, RepT.all kvs L t⟩) fun q => .inr (q.elim (fun ⟨L, r, t⟩ => .inl ⟨L, r, RepK.all kvs L t⟩) fun ⟨L, r, x, t⟩ => .inr ⟨L, r, x, RepM.all kvs L t⟩)⟩
  | .loc l, v, h => h
theorem Reps.all : ∀ (xs : List D) (us : List V), Reps G H w xs us → Reps G H w.all xs us
  | [], _, h => h
  | x :: xs, _, ⟨u, r, e1, a, b⟩ => ⟨u, r, e1, Rep.all x u a, Reps.all xs r b⟩
theorem RepT.all : ∀ (xs : List (D × D)) (L : List (List Key × V)), RepT G H w xs L → RepT G H w.all xs L
  | [], _, h => h
  | (k, d) :: xs, _, ⟨ks, u, r, e1, e2, a, b⟩ => ⟨ks, u, r, e1, e2, Rep.all d u a, RepT.all xs r b⟩
theorem RepK.all : ∀ (xs : List (D × D)) (L : List (Key × V)), RepK G H w xs L → RepK G H w.all xs L
  | [], _, h => h
  | (k, d) :: xs, _, ⟨ks, u, r, e1, e2, a, b⟩ => ⟨ks, u, r, e1, e2, Rep.all d u a, RepK.all xs r b⟩
theorem RepM.all : ∀ (xs : List (D × D)) (L : List (MEnt × V)), RepM G H w xs L → RepM G H w.all xs L
  | [], _, h => h
  | (k, d) :: xs, _, ⟨m, u, r, e1, e2, t, a, b⟩ => ⟨m, u, r, e1, e2, t, Rep.all d u a, RepM.all xs r b⟩
end
theorem rep_top (st : StoR G w S H) {d : D} {v : V} (r : Rep G H w d v) : Rep G H w.all (topOf S d) v := by
  cases d with
  | loc l =>
    obtain ⟨a, rfl, hp⟩ := r
    obtain ⟨o, h1, h2⟩ := st.ob l a hp
    simp only [topOf, h1]
    cases o with
    | lst xs =>
      obtain ⟨us, e, q⟩ := h2
      exact ⟨a, us, rfl, trivial, .inl e, Reps.all _ _ q⟩
    | dct kvs =>
      rcases h2 with ⟨L, e, q⟩ | ⟨L, e, q⟩ | ⟨L, e, x, q⟩
      · exact ⟨a, rfl, trivial, .inl ⟨L, .inl e, RepT.all _ _ q⟩⟩
      · exact ⟨a, rfl, trivial, .inr (.inl ⟨L, .inl e, RepK.all _ _ q⟩)⟩
      · exact ⟨a, rfl, trivial, .inr (.inr ⟨L, .inl e, x, RepM.all _ _ q⟩)⟩
    | fdct kvs =>
      rcases h2 with ⟨L, e, q⟩ | ⟨L, e, q⟩ | ⟨L, e, x, q⟩
      · exact ⟨a, rfl, trivial, .inl ⟨L, .inr e, RepT.all _ _ q⟩⟩
      · exact ⟨a, rfl, trivial, .inr (.inl ⟨L, .inr e, RepK.all _ _ q⟩)⟩
      · exact ⟨a, rfl, trivial, .inr (.inr ⟨L, .inr e, x, RepM.all _ _ q⟩)⟩
    | ins c fs => exact ⟨a, rfl, hp⟩
  | _ => exact Rep.all _ _ r
theorem flat_mono : ∀ (n : Nat), (∀ d, flat n d = true → flat (n + 1) d = true) ∧ (∀ ds, flats n ds = true → flats (n + 1) ds = true)
  | 0 => by
    have h0 : ∀ d, flat 0 d = true → flat 1 d = true := fun d h => by simp [flat] at h
    refine ⟨h0, fun ds => ?_⟩
    induction ds with
    | nil => intro _; rfl
    | cons x xs ih =>
      intro h
      simp only [flats, Bool.and_eq_true] at h ⊢
      exact ⟨h0 x h.1, ih h.2⟩
  | n + 1 => by
    have ih := flat_mono n
    have h0 : ∀ d, flat (n + 1) d = true → flat (n + 2) d = true := fun d h => by
      cases d with
      | tup xs => simp only [flat] at h ⊢; exact ih.2 xs h
      | vl xs => simp only [flat] at h ⊢; exact ih.2 xs h
      | loc _ => simp [flat] at h
      | fn _ => simp [flat] at h
      | vd _ => simp [flat] at h
      | _ => rfl
    refine ⟨h0, fun ds => ?_⟩
    induction ds with
    | nil => intro _; rfl
    | cons x xs ih2 =>
      intro h
      simp only [flats, Bool.and_eq_true] at h ⊢
      exact ⟨h0 x h.1, ih2 h.2⟩
/-! ### == of two dicts -/
theorem KT.get {L : List (List Key × V)} {xs : List (List Key × Addr × Value)} (r : KT H L xs) (ks : List Key) : (∀ v, valV L ks = some v → ∃ q, atKey xs ks = some q ∧ RelV v q.2) ∧ (valV L ks = none → atKey xs ks = none) := by
  have h := r.val ks
  refine ⟨fun v e => ?_, fun e => ?_⟩
  · rw [e] at h
    obtain ⟨u, h1, h2⟩ := RelO.some_of h
    obtain ⟨q, h3, h4⟩ := Option.map_eq_some_iff.mp h1
    exact ⟨q, h3, h4 ▸ h2⟩
  · rw [e] at h
    have := RelO.none_of h
    simpa using this
theorem hits_of (I : Inv X pins σ H s) {A : Around} (hu : A.units + 9 < cLine) {kb : List (D × D)} {Lb : List (List Key × V)} {ys : List (List Key × Addr × Value)} (qb : RepT G H w kb Lb) (rb : KT H Lb ys) (fb : (kb.all fun p => keyT p.1 && flat 9 p.2) = true) :
    ∀ {ka : List (D × D)} {La : List (List Key × V)} {xs : List (List Key × Addr × Value)}, RepT G H w ka La → KT H La xs → (ka.all fun p => keyT p.1 && flat 9 p.2) = true → HitsT A s ys xs (eqvK ka kb)
  | [], La, xs, qa, ra, _ => by
    have e : La = [] := qa
    subst e
    cases ra
    exact .nil
  | (k, d) :: r, _, xs, ⟨ks, u, L', e1, e2, a, b⟩, ra, fa => by
    subst e1 e2
    cases ra with
    | @cons _ p _ ps h t =>
      obtain ⟨pk, pa, pv⟩ := p
      obtain ⟨h1, h2, h3⟩ := h
      have h1 : ks = pk := h1
      subst h1
      simp only [List.all_cons, Bool.and_eq_true] at fa
      have ih := hits_of I hu qb rb fb b t (by simpa using fa.2)
      have gt := repT_get ks qb
      have kt := KT.get rb ks
      simp only [eqvK]
      cases hd : dget kb (.tup (ks.map kD)) with
      | none =>
        rw [Bool.false_and]
        exact .miss (kt.2 (gt.2 hd))
      | some d' =>
        obtain ⟨v, e3, r3⟩ := gt.1 d' hd
        obtain ⟨q, e4, r4⟩ := kt.1 v e3
        have fd : flat 9 d' = true := by
          obtain ⟨p, hp, ep⟩ := Option.map_eq_some_iff.mp hd
          have := List.all_eq_true.mp fb p (List.mem_of_find?_eq_some hp)
          rw [Bool.and_eq_true] at this
          rw [← ep]; exact this.2
        exact .hit e4 (eq_flat I 9 d d' A u v pv q.2 (by omega) fa.1.2 fd a h3 r3 r4) ih
theorem dict_two (I : Inv X pins σ H s) {x y : V} {v u : Value} {ks ls : List (D × D)} (hu : X.A.units + 20 < cLine) (fa : dfl ks = true) (fb : dfl ls = true) (ra : Rep G H w (.vd ks) x) (rx : RelV x v) (rb : Rep G H w (.vd ls) y) (ry : RelV y u) :
    ∃ a b xs ys, v = .ref a ∧ u = .ref b ∧ (a == sysModules) = false ∧ (b == sysModules) = false ∧ s.heap.DictOfH (tupleKind (mixKind X.prog X.w)) a xs ∧ s.heap.DictOfH (tupleKind (mixKind X.prog X.w)) b ys ∧ xs.length = ks.length ∧ ys.length = ls.length ∧
      (∀ A : Around, A.units + 9 < cLine → HitsT A s ys xs (eqvK ks ls)) := by
  obtain ⟨a, rfl, _, da⟩ := ra
  obtain ⟨b, rfl, _, db⟩ := rb
  cases rx; cases ry
  have ka : (ks.all fun p => keyT p.1) = true := List.all_eq_true.mpr fun p hp => (Bool.and_eq_true_iff.mp (List.all_eq_true.mp fa p hp)).1
  have kb : (ls.all fun p => keyT p.1) = true := List.all_eq_true.mpr fun p hp => (Bool.and_eq_true_iff.mp (List.all_eq_true.mp fb p hp)).1
  obtain ⟨na, La, xs, qa, ta, ha, _⟩ := dicT_at I (G := G) (w := w) da ka
  obtain ⟨nb, Lb, ys, qb, tb, hb, _⟩ := dicT_at I (G := G) (w := w) db kb
  refine ⟨a, b, xs, ys, rfl, rfl, na, nb, ha, hb, ?_, ?_, fun A hA => hits_of I hA qb tb fb qa ta fa⟩
  · rw [← Paired.length ta, RepT.length qa]
  · rw [← Paired.length tb, RepT.length qb]
/-! ### the operators -/
def rC2 (G : AMap) (f : Sto → D → D → Option Bool) : R2 := fun x y H Q => ∃ w S a b k, StoR G w S H ∧ Rep G H w a x ∧ Rep G H w b y ∧ f S a b = some k ∧ Q (.bl k) H
theorem eq_ok (hu : X.A.units + 20 < cLine) : OpR X (compareOp .Eq) (rC2 G fun S a b => eqT (topOf S a) (topOf S b)) := by
  intro pins s σ H x y v u Q I rx ry ⟨w, S, a, b, k, st, ra, rb, e, q⟩
  have ra' := rep_top st ra
  have rb' := rep_top st rb
  replace e : eqT (topOf S a) (topOf S b) = some k := e
  revert ra' rb' e
  generalize topOf S a = a'
  generalize topOf S b = b'
  intro ra' rb' e
  unfold eqT at e
  split at e
  · rename_i hf
    rw [Bool.and_eq_true] at hf
    cases e
    exact rc_flat I 9 a' b' X.A x y v u (by omega) hf.1 hf.2 ra' rx rb' ry _ _ _ _ ⟨.bl _, H, I, rfl, q⟩
  · split at e
    · rename_i ks ls
      split at e
      · rename_i hf
        rw [Bool.and_eq_true] at hf
        cases e
        obtain ⟨c, d, xs, ys, rfl, rfl, nc, nd, hc, hd, l1, l2, hh⟩ := dict_two I hu hf.1 hf.2 ra' rx rb' ry
        refine eqDictsT (tupleKind_room_in1 (by omega)) nc nd hc hd (by omega) (fun _ => hh X.A.in1 (by show X.A.units + 1 + 9 < cLine; omega)) ⟨.bl _, H, I, rfl, ?_⟩
        rw [l1, l2]
        exact q
      · cases e
    · rename_i xs ys
      split at e
      · cases e
      · rename_i hne
        cases e
        obtain ⟨c, us, rfl, _, rd, rs⟩ := ra'
        obtain ⟨c2, us2, rfl, _, rd2, rs2⟩ := rb'
        cases rx; cases ry
        obtain ⟨its, _, l1, i1⟩ := lst_isL I rd
        obtain ⟨its2, _, l2, i2⟩ := lst_isL I rd2
        have e1 := Reps.length rs
        have e2 := Reps.length rs2
        exact PySem.SeqAt.RcAt.lists_lengths i1 i2 (by simp; omega) (by omega) _ _ _ _ ⟨.bl _, H, I, rfl, q⟩
    · cases e
theorem ne_ok (hu : X.A.units + 20 < cLine) : OpR X (compareOp .NotEq) (rC2 G fun S a b => (eqT (topOf S a) (topOf S b)).map not) := by
  intro pins s σ H x y v u Q I rx ry ⟨w, S, a, b, k, st, ra, rb, e, q⟩
  have ra' := rep_top st ra
  have rb' := rep_top st rb
  replace e : (eqT (topOf S a) (topOf S b)).map not = some k := e
  revert ra' rb' e
  generalize topOf S a = a'
  generalize topOf S b = b'
  intro ra' rb' e
  unfold eqT at e
  split at e
  · rename_i hf
    rw [Bool.and_eq_true] at hf
    cases e
    exact ne_flat I 9 a' b' X.A x y v u (by omega) hf.1 hf.2 ra' rx rb' ry _ _ _ _ ⟨.bl _, H, I, rfl, q⟩
  · split at e
    · rename_i ks ls
      split at e
      · rename_i hf
        rw [Bool.and_eq_true] at hf
        cases e
        obtain ⟨c, d, xs, ys, rfl, rfl, nc, nd, hc, hd, l1, l2, hh⟩ := dict_two I hu hf.1 hf.2 ra' rx rb' ry
        refine neDictsT (tupleKind_room_in1 (by omega)) nc nd hc hd (by omega) (fun _ => hh X.A.in1 (by show X.A.units + 1 + 9 < cLine; omega)) ⟨.bl _, H, I, rfl, ?_⟩
        rw [l1, l2]
        exact q
      · cases e
    · rename_i xs ys
      split at e
      · cases e
      · rename_i hne
        cases e
        obtain ⟨c, us, rfl, _, rd, rs⟩ := ra'
        obtain ⟨c2, us2, rfl, _, rd2, rs2⟩ := rb'
        cases rx; cases ry
        obtain ⟨its, _, l1, i1⟩ := lst_isL I rd
        obtain ⟨its2, _, l2, i2⟩ := lst_isL I rd2
        have e1 := Reps.length rs
        have e2 := Reps.length rs2
        exact PySem.SeqAt.RcNeAt.lists_lengths i1 i2 (by simp; omega) (by omega) _ _ _ _ ⟨.bl _, H, I, rfl, q⟩
    · cases e
end
end Lt
namespace Lt
open PySem L2 PySem.Spec PyProof.Rows
def opC : COp → CmpOp
  | .eq => .Eq
  | .ne => .NotEq
  | .lt => .Lt
  | .le => .LtE
  | .gt => .Gt
  | .ge => .GtE
  | .isin => .In
  | .nin => .NotIn
  | .is => .Is
  | .isnt => .IsNot
section
variable {G : AMap} {H H1 H2 : Hp} {w w1 w2 : Wd} {W : XK} {S : Sto}
variable {X : Cx} {pins : List (Addr × Obj)} {σ : L2.St} {s : Shared}
theorem cmpI_ok {op : CmpOp} {c : Int → Int → Bool} (h : OpR X (compareOp op) (rI0 fun i j => .bl (c i j))) : OpR X (compareOp op) (rC2 G fun _ a b => cmpI a b c) := by
  intro pins s σ H x y v u Q I rx ry ⟨w, S, a, b, k, st, ra, rb, e, q⟩
  have e : cmpI a b c = some k := e
  cases a <;> cases b <;> first | (simp [cmpI] at e; done) | skip
  cases ra; cases rb
  simp only [cmpI, Option.some.injEq] at e
  subst e
  exact h pins s σ H _ _ v u Q I rx ry ⟨_, _, rfl, rfl, q⟩
theorem isOne_ok {a b : D} {k : Bool} {x y : V} {v u : Value} (ra : Rep G H w a x) (rx : RelV x v) (rb : Rep G H w b y) (ry : RelV y u) (e : isOne a b = some k) : plainIs v u = true ∧ (v == u) = k := by
  cases b with
  | non =>
    cases rb; cases ry
    simp only [isOne, Option.some.injEq] at e
    subst e
    cases a with
    | non => cases ra; cases rx; exact ⟨rfl, rfl⟩
    | bl _ => cases ra; cases rx; exact ⟨rfl, rfl⟩
    | int _ => cases ra; obtain ⟨t, rfl⟩ := rx; exact ⟨rfl, rfl⟩
    | str _ => cases ra; obtain ⟨t, rfl⟩ := rx; exact ⟨rfl, rfl⟩
    | fn _ => obtain ⟨_, rfl, _⟩ := ra; cases rx; exact ⟨rfl, rfl⟩
    | tup _ => obtain ⟨_, _, rfl, _⟩ := ra; cases rx; exact ⟨rfl, rfl⟩
    | vl _ => obtain ⟨_, _, rfl, _⟩ := ra; cases rx; exact ⟨rfl, rfl⟩
    | vd _ => obtain ⟨_, rfl, _⟩ := ra; cases rx; exact ⟨rfl, rfl⟩
    | loc _ => obtain ⟨_, rfl, _⟩ := ra; cases rx; exact ⟨rfl, rfl⟩
  | bl c =>
    cases rb; cases ry
    cases a with
    | bl d =>
      cases ra; cases rx
      simp only [isOne, Option.some.injEq] at e
      subst e
      refine ⟨rfl, ?_⟩
      cases c <;> cases d <;> rfl
    | non => cases ra; cases rx; cases e; exact ⟨rfl, rfl⟩
    | int _ => cases ra; obtain ⟨t, rfl⟩ := rx; cases e; exact ⟨rfl, rfl⟩
    | str _ => cases ra; obtain ⟨t, rfl⟩ := rx; cases e; exact ⟨rfl, rfl⟩
    | fn _ => obtain ⟨_, rfl, _⟩ := ra; cases rx; cases e; exact ⟨rfl, rfl⟩
    | tup _ => obtain ⟨_, _, rfl, _⟩ := ra; cases rx; cases e; exact ⟨rfl, rfl⟩
    | vl _ => obtain ⟨_, _, rfl, _⟩ := ra; cases rx; cases e; exact ⟨rfl, rfl⟩
    | vd _ => obtain ⟨_, rfl, _⟩ := ra; cases rx; cases e; exact ⟨rfl, rfl⟩
    | loc _ => obtain ⟨_, rfl, _⟩ := ra; cases rx; cases e; exact ⟨rfl, rfl⟩
  | _ => simp [isOne] at e
theorem is_ok : OpR X (compareOp .Is) (rC2 G fun _ a b => isOne a b) := by
  intro pins s σ H x y v u Q I rx ry ⟨w, S, a, b, k, st, ra, rb, e, q⟩
  obtain ⟨h1, h2⟩ := isOne_ok ra rx rb ry e
  exact wpAny_is_plain h1 ⟨.bl _, H, I, rfl, by rw [h2]; exact q⟩
theorem isnt_ok : OpR X (compareOp .IsNot) (rC2 G fun _ a b => (isOne a b).map not) := by
  intro pins s σ H x y v u Q I rx ry ⟨w, S, a, b, k, st, ra, rb, e, q⟩
  obtain ⟨k', e1, rfl⟩ := Option.map_eq_some_iff.mp e
  obtain ⟨h1, h2⟩ := isOne_ok ra rx rb ry e1
  exact wpAny_isNot_plain h1 ⟨.bl _, H, I, rfl, by rw [h2]; exact q⟩
/-! ### in -/
open Classical in
/-- equality by the value: what it stands for -/
noncomputable def eqFun (G : AMap) (H : Hp) (w : Wd) (a : D) (z : Value) : Bool := if ∃ d v, Rep G H w d v ∧ RelV v z ∧ flat 9 d = true ∧ eqv d a = true then true else false
theorem eqFun_of {a d : D} {v : V} {z : Value} (r : Rep G H w d v) (rl : RelV v z) (f : flat 9 d = true) : eqFun G H w a z = eqv d a := by
  unfold eqFun
  by_cases h : eqv d a = true
  · rw [if_pos ⟨d, v, r, rl, f, h⟩, h]
  · rw [if_neg]
    · simpa using (Bool.eq_false_iff.mpr h).symm
    · rintro ⟨d', v', r', rl', f', h'⟩
      obtain rfl := RelV.inj rl rl'
      obtain rfl := rep_inj 9 _ _ _ f f' r r'
      exact h h'
theorem any_of {a : D} : ∀ {ys : List D} {us : List V} {its : List Value}, flats 9 ys = true → Reps G H w ys us → Vals us its → its.any (eqFun G H w a) = memD a ys
  | [], _, its, _, h, r => by
    have h : _ = [] := h
    subst h
    cases r
    rfl
  | y :: ys, _, _, f, ⟨u, r', e, p, q⟩, r => by
    subst e
    cases r with
    | cons h t =>
      simp only [flats, Bool.and_eq_true] at f
      simp only [List.any_cons, memD]
      rw [eqFun_of p h f.1, any_of f.2 q t]
      rfl
theorem each_of (I : Inv X pins σ H s) {a : D} {x : V} {v : Value} {A : Around} (hu : A.units + 9 < cLine) (fa : flat 9 a = true) (ra : Rep G H w a x) (rx : RelV x v) : ∀ {ys : List D} {us : List V} {its : List Value}, flats 9 ys = true → Reps G H w ys us → Vals us its →
    ∀ z ∈ its, SeqAt.EqAt A s z v (eqFun G H w a z)
  | [], _, its, _, h, r => by
    have h : _ = [] := h
    subst h
    cases r
    exact fun z hz => by simp at hz
  | y :: ys, _, _, f, ⟨u, r', e, p, q⟩, r => by
    subst e
    cases r with
    | cons h t =>
      simp only [flats, Bool.and_eq_true] at f
      intro z hz
      rcases List.mem_cons.mp hz with e | hz
      · subst e
        rw [eqFun_of p h f.1]
        exact eq_flat I 9 y a A u x _ v (by omega) f.1 fa p h ra rx
      · exact each_of I hu fa ra rx f.2 q t z hz
/-- what a dict holds at a key, for the layer's rules -/
theorem dget_of {kvs : List (D × D)} {k : D} {a : Addr} {y : V} (st : StoR G w S H) (d : DicV G H w kvs a) (ok : keysOk kvs k = true) (rk : Rep G H w k y) (ne : kvs ≠ []) :
    (∀ z, dget kvs k = some z → ∃ v, Rep G H w z v ∧ DGet H a y (some v)) ∧ (dget kvs k = none → DGet H a y none) := by
  unfold keysOk at ok
  simp only [Bool.and_eq_true, Bool.or_eq_true] at ok
  obtain ⟨o1, o2⟩ := ok
  rcases o2 with o2 | o2
  · obtain ⟨ks, rfl⟩ := keyT_ex o2.1
    obtain ⟨b, rfl, hb⟩ := rep_tkey st rk o1
    rcases d with ⟨L, rd, q⟩ | ⟨L, rd, q⟩ | ⟨L, rd, x, q⟩
    rotate_left 2
    · exact (mixd_T x o2.2).elim
    · have g := repT_get ks q
      refine ⟨fun z e => ?_, fun e => .inr ⟨L, ks, b, rd, rfl, hb, (g.2 e).symm⟩⟩
      obtain ⟨v, e1, r⟩ := g.1 z e
      exact ⟨v, r, .inr ⟨L, ks, b, rd, rfl, hb, e1.symm⟩⟩
    · cases kvs with
      | nil => exact absurd rfl ne
      | cons p r =>
        have h2 := repK_keys q
        have o3 := o2.2
        simp only [List.all_cons, Bool.and_eq_true] at h2 o3
        exact (keyTK o3.1 h2.1).elim
  · obtain ⟨k', rfl⟩ := keyK_ex o2.1
    obtain rfl := rep_key rk
    rcases d with ⟨L, rd, q⟩ | ⟨L, rd, q⟩ | ⟨L, rd, x, q⟩
    rotate_left 2
    · exact (mixd_K x o2.2).elim
    · cases kvs with
      | nil => exact absurd rfl ne
      | cons p r =>
        have h2 := repT_keys q
        have o3 := o2.2
        simp only [List.all_cons, Bool.and_eq_true] at h2 o3
        exact (keyTK h2.1 o3.1).elim
    · have g := repK_get k' q
      refine ⟨fun z e => ?_, fun e => .inl ⟨L, k', rd, rfl, (g.2 e).symm⟩⟩
      obtain ⟨v, e1, r⟩ := g.1 z e
      exact ⟨v, r, .inl ⟨L, k', rd, rfl, e1.symm⟩⟩
/-- the empty dict, asked for a key -/
theorem empty_of (I : Inv X pins σ H s) {k : D} {a : Addr} {y : V} {u : Value} (st : StoR G w S H) (d : DicV G H w [] a) (ok : keysOk [] k = true) (rk : Rep G H w k y) (ry : RelV y u) :
    (a == sysModules) = false ∧ ((∃ k' : Key, (mixKind X.prog X.w).is k' u = true ∧ s.heap.DictOf (mixKind X.prog X.w) a []) ∨ ∃ ks b, u = .ref b ∧ (tupleKind (mixKind X.prog X.w)).is s.heap ks b ∧ s.heap.DictOfH (tupleKind (mixKind X.prog X.w)) a []) := by
  unfold keysOk at ok
  simp only [Bool.and_eq_true, Bool.or_eq_true] at ok
  obtain ⟨o1, o2⟩ := ok
  rcases o2 with o2 | o2
  · obtain ⟨ks, rfl⟩ := keyT_ex o2.1
    obtain ⟨b, rfl, hb⟩ := rep_tkey st rk o1
    cases ry
    obtain ⟨na, L, xs, q, t, dd, _⟩ := dicT_at I d rfl
    have e : L = [] := q
    subst e
    cases t
    exact ⟨na, .inr ⟨ks, b, rfl, key_of I.hok hb, dd⟩⟩
  · obtain ⟨k', rfl⟩ := keyK_ex o2.1
    obtain rfl := rep_key rk
    obtain ⟨na, L, vs, q, t, dd, _⟩ := dicK_at I d rfl
    have e : L = [] := q
    subst e
    cases t
    exact ⟨na, .inl ⟨k', kV_is ry, dd⟩⟩
theorem in_dict (hu : X.A.units + 20 < cLine) (I : Inv X pins σ H s) {kvs : List (D × D)} {k : D} {a : Addr} {y : V} {u : Value} (st : StoR G w S H) (d : DicV G H w kvs a) (ok : keysOk kvs k = true) (rk : Rep G H w k y) (ry : RelV y u) {Q : Value → Shared → Prop} {E : Value → Shared → Prop}
    (q : ∀ s', Inv X pins σ H s' → Q (.bool (dhas kvs k)) s') : wpAny (model X.prog X.w) X.A (compareOp .In u (.ref a)) Q E s := by
  by_cases ne : kvs = []
  · subst ne
    obtain ⟨na, h⟩ := empty_of I st d ok rk ry
    rcases h with ⟨k', h1, h2⟩ | ⟨ks, b, rfl, h1, h2⟩
    · exact wpAny_in_of h1 na h2.mapOf (q _ (I.tok _))
    · exact wpAny_in_heap (tupleKind_room_in1 (by omega)) h1 na h2 (q _ (I.tok _))
  · have g := dget_of st d ok rk ne
    unfold dhas at q
    cases e : dget kvs k with
    | none =>
      rw [e] at q
      exact d_in (by omega) I (g.2 e) ry q
    | some z =>
      rw [e] at q
      obtain ⟨v, r, g1⟩ := g.1 z e
      exact d_in (by omega) I g1 ry q
theorem nin_dict (hu : X.A.units + 20 < cLine) (I : Inv X pins σ H s) {kvs : List (D × D)} {k : D} {a : Addr} {y : V} {u : Value} (st : StoR G w S H) (d : DicV G H w kvs a) (ok : keysOk kvs k = true) (rk : Rep G H w k y) (ry : RelV y u) {Q : Value → Shared → Prop} {E : Value → Shared → Prop}
    (q : ∀ s', Inv X pins σ H s' → Q (.bool (!dhas kvs k)) s') : wpAny (model X.prog X.w) X.A (compareOp .NotIn u (.ref a)) Q E s := by
  by_cases ne : kvs = []
  · subst ne
    obtain ⟨na, h⟩ := empty_of I st d ok rk ry
    rcases h with ⟨k', h1, h2⟩ | ⟨ks, b, rfl, h1, h2⟩
    · exact wpAny_notIn_of h1 na h2.mapOf (q _ (I.tok _))
    · exact wpAny_notIn_heap (tupleKind_room_in1 (by omega)) h1 na h2 (q _ (I.tok _))
  · have g := dget_of st d ok rk ne
    unfold dhas at q
    cases e : dget kvs k with
    | none =>
      rw [e] at q
      exact d_notIn (by omega) I (g.2 e) ry q
    | some z =>
      rw [e] at q
      obtain ⟨v, r, g1⟩ := g.1 z e
      exact d_notIn (by omega) I g1 ry q
theorem in_ok (hu : X.A.units + 20 < cLine) : OpR X (compareOp .In) (rC2 G inD) := by
  intro pins s σ H x y v u Q I rx ry ⟨w, S, a, b, k, st, ra, rb, e, q⟩
  unfold inD at e
  split at e
  · rename_i z
    unfold inS at e
    split at e
    · cases ra; cases rb
      cases e
      exact op_in_str pins s σ H _ _ v u Q I rx ry ⟨_, _, rfl, rfl, q⟩
    · cases e
  · rename_i ys
    unfold inT at e
    split at e
    · rename_i hf
      rw [Bool.and_eq_true] at hf
      cases e
      obtain ⟨c, us, rfl, rd, qs⟩ := rb
      cases ry
      obtain ⟨its, rv, _, ht⟩ := tup_isT I rd
      refine SeqAt.in_tupleAt (eqFun G H w a) ht (fun z hz => each_of I (by show X.A.units + 1 + 9 < cLine; omega) hf.1 ra rx hf.2 qs rv z (by simpa using hz)) ⟨.bl _, H, I, rfl, ?_⟩
      rw [show its.toArray.any (eqFun G H w a) = its.any (eqFun G H w a) by simp, any_of hf.2 qs rv]
      exact q
    · cases e
  · unfold inO at e
    split at e
    · rename_i ys h1
      split at e
      · rename_i hf
        rw [Bool.and_eq_true] at hf
        cases e
        obtain ⟨c, us, rfl, rd, qs⟩ := lst_at st rb (view_lst h1)
        cases ry
        obtain ⟨its, rv, _, ht⟩ := lst_isL I rd
        refine SeqAt.in_listAt (eqFun G H w a) ht (fun z hz => each_of I (by show X.A.units + 1 + 9 < cLine; omega) hf.1 ra rx hf.2 qs rv z (by simpa using hz)) ⟨.bl _, H, I, rfl, ?_⟩
        rw [show its.toArray.any (eqFun G H w a) = its.any (eqFun G H w a) by simp, any_of hf.2 qs rv]
        exact q
      · cases e
    · rename_i kvs h2
      split at e
      · rename_i hk
        cases e
        obtain ⟨c, rfl, d⟩ := dct_at st rb (view_dct h2)
        cases ry
        exact in_dict hu I st d hk ra rx fun s' I' => ⟨.bl _, H, I', rfl, q⟩
      · cases e
    · cases e
theorem nin_ok (hu : X.A.units + 20 < cLine) : OpR X (compareOp .NotIn) (rC2 G fun S a b => (inD S a b).map not) := by
  intro pins s σ H x y v u Q I rx ry ⟨w, S, a, b, k, st, ra, rb, e, q⟩
  replace e : ∃ k', inD S a b = some k' ∧ (!k') = k := Option.map_eq_some_iff.mp (show (inD S a b).map not = some k from e)
  obtain ⟨k', e, e2⟩ := e
  subst e2
  unfold inD at e
  split at e
  · rename_i z
    unfold inS at e
    split at e
    · cases ra; cases rb
      cases e
      exact op_notin_str pins s σ H _ _ v u Q I rx ry ⟨_, _, rfl, rfl, q⟩
    · cases e
  · rename_i ys
    unfold inT at e
    split at e
    · rename_i hf
      rw [Bool.and_eq_true] at hf
      cases e
      obtain ⟨c, us, rfl, rd, qs⟩ := rb
      cases ry
      obtain ⟨its, rv, _, ht⟩ := tup_isT I rd
      refine SeqAt.notIn_tupleAt (eqFun G H w a) ht (fun z hz => each_of I (by show X.A.units + 1 + 9 < cLine; omega) hf.1 ra rx hf.2 qs rv z (by simpa using hz)) ⟨.bl _, H, I, rfl, ?_⟩
      rw [show its.toArray.any (eqFun G H w a) = its.any (eqFun G H w a) by simp, any_of hf.2 qs rv]
      exact q
    · cases e
  · unfold inO at e
    split at e
    · rename_i ys h1
      split at e
      · rename_i hf
        rw [Bool.and_eq_true] at hf
        cases e
        obtain ⟨c, us, rfl, rd, qs⟩ := lst_at st rb (view_lst h1)
        cases ry
        obtain ⟨its, rv, _, ht⟩ := lst_isL I rd
        refine SeqAt.notIn_listAt (eqFun G H w a) ht (fun z hz => each_of I (by show X.A.units + 1 + 9 < cLine; omega) hf.1 ra rx hf.2 qs rv z (by simpa using hz)) ⟨.bl _, H, I, rfl, ?_⟩
        rw [show its.toArray.any (eqFun G H w a) = its.any (eqFun G H w a) by simp, any_of hf.2 qs rv]
        exact q
      · cases e
    · rename_i kvs h2
      split at e
      · rename_i hk
        cases e
        obtain ⟨c, rfl, d⟩ := dct_at st rb (view_dct h2)
        cases ry
        exact nin_dict hu I st d hk ra rx fun s' I' => ⟨.bl _, H, I', rfl, q⟩
      · cases e
    · cases e
theorem cmpop_ok (hu : X.A.units + 20 < cLine) : ∀ op : COp, OpR X (compareOp (opC op)) (rC2 G fun S a b => cmpop S op a b)
  | .eq => eq_ok hu
  | .ne => ne_ok hu
  | .lt => cmpI_ok op_lt
  | .le => cmpI_ok op_le
  | .gt => cmpI_ok op_gt
  | .ge => cmpI_ok op_ge
  | .isin => in_ok hu
  | .nin => nin_ok hu
  | .is => is_ok
  | .isnt => isnt_ok
end
end Lt
namespace Lt
open PySem L2 PySem.Spec PyProof.Rows
section
variable {G : AMap} {H H1 H2 : Hp} {w w1 w2 : Wd} {W : XK} {S : Sto}
variable {X : Cx} {pins : List (Addr × Obj)} {σ : L2.St} {s : Shared}
def rIxD : R2 := fun x y H Q => ∃ a v, x = .ref a ∧ DGet H a y (some v) ∧ Q v H
theorem ix_dict (hu : X.A.units + 1 < cLine) : IxR X rIxD := by
  intro value slice pins s σ H x y v u Q I rx ry ⟨a, z, ex, g, q⟩ hs
  subst ex
  cases rx
  have hT := dict_typeIs I g
  unfold subscriptTail
  refine wpAny_bind ?_
  rw [getitemInPython_of_ne hT.not_modules]
  refine wpAny_bind (wpAny_specialOf hT PySem.F.slot_dict_getitem.lookup ?_)
  have fin : wpAny (model X.prog X.w) X.A (subscripted slice false (.ref a) u) (fun r s₃ => wpAny (model X.prog X.w) X.A (letTemporaryGo value (.ref a) r >>= fun _ => pure r) (EP X pins σ Q) X.xe s₃) X.xe s := by
    rw [hs]
    refine wpAny_operating (d_getItem hu I g ry fun w' s3 I3 rw' => ?_)
    exact wpAny_bind (wpAny_letTemporaryGo (wpAny_pure ⟨z, H, I3, rw', q⟩))
  first
    | exact wpAny_pure (wpAny_bind fin)
    | exact wpAny_bind (wpAny_pure (wpAny_bind fin))
    | exact wpAny_bind fin
theorem atI_of {xs : List D} {us : List V} {i : Int} {k : Nat} (q : Reps G H w xs us) (h : L2.ixN xs.length i = some k) : ∃ v, L2.atI us i = some v ∧ Rep G H w (xs.getD k .non) v := by
  have hk := (ixN_seq h).2.1
  obtain ⟨v, e, r⟩ := Reps.get (i := k) (x := xs[k]) q (List.getElem?_eq_getElem hk)
  refine ⟨v, ?_, ?_⟩
  · unfold L2.atI
    rw [Reps.length q, h]
    exact e
  · rw [List.getD_eq_getElem?_getD, List.getElem?_eq_getElem hk]
    exact r
theorem index_ok (hu : X.A.units + 20 < cLine) : IxR X (rD2 G index) := by
  intro value slice pins s σ H x y v u Q I rx ry ⟨w, S, a, b, st, ra, rb, g⟩ hs
  unfold index at g
  split at g
  · rename_i xs
    unfold idxT at g
    split at g
    · rename_i i
      split at g
      · rename_i k hk
        obtain ⟨c, us, rfl, rd, q⟩ := (show ∃ a us, x = .ref a ∧ Rd H a (.tup us) ∧ Reps G H w xs us from ra)
        cases rb
        obtain ⟨z, e, r⟩ := atI_of q hk
        exact ix_tup value slice pins s σ H _ _ v u Q I rx ry ⟨c, us, i, z, rfl, rfl, SqT.rd rd, e, GoodV.here g st r⟩ hs
      · exact g.elim
    · exact g.elim
  · rename_i z
    unfold idxS at g
    split at g
    · rename_i i
      split at g
      · rename_i k hk
        split at g
        · rename_i hl
          cases ra; cases rb
          refine ix_str value slice pins s σ H _ _ v u Q I rx ry ⟨z, i, _, rfl, rfl, Nat.le_trans hl (by rw [sizeLine_eq]; decide), ?_, GoodV.here g st rfl⟩ hs
          have hk2 : L2.ixN z.cps.toList.length i = some k := by
            rw [show z.cps.toList.length = z.length by simp [Str.length]]
            exact hk
          have lt := (ixN_seq hk2).2.1
          unfold L2.atI
          rw [hk2]
          show z.cps.toList[k]? = _
          rw [List.getElem?_eq_getElem lt]
          have lt' : k < z.cps.size := by simpa using lt
          simp [Array.getD, lt']
        · exact g.elim
      · exact g.elim
    · exact g.elim
  · unfold idxO at g
    split at g
    · rename_i xs h1
      unfold idxT at g
      split at g
      · rename_i i
        split at g
        · rename_i j hk
          obtain ⟨c, us, rfl, rd, q⟩ := lst_at st ra (view_lst h1)
          cases rb
          obtain ⟨z, e, r⟩ := atI_of q hk
          exact ix_list value slice pins s σ H _ _ v u Q I rx ry ⟨c, us, _, z, rfl, rfl, SqL.rd rd, e, GoodV.here g st r⟩ hs
        · exact g.elim
      · exact g.elim
    · rename_i kvs h2
      unfold idxD at g
      split at g
      · rename_i hk
        split at g
        · rename_i z hz
          obtain ⟨c, rfl, d⟩ := dct_at st ra (view_dct h2)
          have ne : kvs ≠ [] := fun z => by subst z; simp [dget] at hz
          obtain ⟨z', r, dg⟩ := (dget_of st d hk rb ne).1 _ hz
          exact ix_dict (by omega) value slice pins s σ H _ _ v u Q I rx ry ⟨c, z', rfl, dg, GoodV.here g st r⟩ hs
        · exact g.elim
      · exact g.elim
    · exact g.elim
/-! ### slices -/
def rDS (G : AMap) (f : Sto → D → Option Int → Option Int → R D) : V → Option Int → Option Int → Hp → VK → Prop := fun x l h H Q => ∃ w S a, StoR G w S H ∧ Rep G H w a x ∧ GoodN G H w (f S a l h) Q
theorem reps_cut {xs : List D} {us : List V} (q : Reps G H w xs us) (i j : Option Int) : Reps G H w (cutL xs i j) (cutV us i j) := by
  unfold cutL cutV
  rw [Reps.length q]
  exact Reps.take _ (Reps.drop _ q)
theorem slice_ok : L2.SlR X (rDS G sliceI) := by
  intro pins s σ H x v vl vu lo hi sl Q I rx hs pl pu ⟨w, S, a, st, ra, g⟩
  unfold sliceI at g
  split at g
  · rename_i xs
    obtain ⟨c, us, rfl, rd, q⟩ := (show ∃ a us, x = .ref a ∧ Rd H a (.tup us) ∧ Reps G H w xs us from ra)
    refine sl_tupA pins s σ H _ v vl vu lo hi sl Q I rx hs pl pu ⟨c, us, rfl, SqT.rd rd, fun z => ?_, fun _ p hp => GoodV.newTup g st (reps_cut q lo hi) hp⟩
    refine GoodV.here g st ⟨c, us, rfl, rd, ?_⟩
    have e := reps_cut q lo hi
    have e2 : cutV us lo hi = us := by
      unfold cutV
      rw [z.1, z.2, List.drop_zero, Nat.sub_zero, List.take_length]
    rw [e2] at e
    exact e
  · split at g
    · rename_i hl
      cases ra
      exact sl_str pins s σ H _ v vl vu lo hi sl Q I rx hs pl pu ⟨_, rfl, Nat.le_trans hl (by rw [sizeLine_eq]; decide), GoodV.here g st rfl⟩
    · exact g.elim
  · unfold slcO at g
    split at g
    · rename_i xs h1
      obtain ⟨c, us, rfl, rd, q⟩ := lst_at st ra h1
      exact sl_list pins s σ H _ v vl vu lo hi sl Q I rx hs pl pu ⟨c, us, rfl, SqL.rd rd, fun p hp => GoodV.froze g st hp ⟨p, _, rfl, .inr rfl, .inl upd_same, Reps.mono (Ext.froze st hp) _ _ (reps_cut q lo hi)⟩⟩
    · exact g.elim
/-! ### built-in functions of one argument -/
def rDC (G : AMap) (f : Sto → D → R D) : List V → Hp → VK → Prop := fun vs H Q => ∃ x w S a, vs = [x] ∧ StoR G w S H ∧ Rep G H w a x ∧ GoodN G H w (f S a) Q
theorem one_rel {x : V} {us : List Value} (r : Vals [x] us) : ∃ u, us = [u] ∧ RelV x u := vals1 r
theorem len_ok (m : Bool) : CallR X (.builtin "len") (rDC G fun S a => builtin m S .len a) := by
  intro pins s σ H vs us Q I r ⟨x, w, S, a, ev, st, ra, g⟩
  subst ev
  have big := line63
  replace g : GoodN G H w (lenD S a) Q := g
  unfold lenD at g
  split at g
  · rename_i xs
    obtain ⟨c, ws, rfl, rd, q⟩ := (show ∃ a us, x = .ref a ∧ Rd H a (.tup us) ∧ Reps G H w xs us from ra)
    refine call_len pins s σ H _ us Q I r ⟨_, ws.length, rfl, .inr ⟨ws, SqT.rd rd, rfl⟩, ?_⟩
    rw [Reps.length q]
    exact GoodV.here g st rfl
  · split at g
    · rename_i hl
      cases ra
      exact call_len pins s σ H _ us Q I r ⟨_, _, rfl, ⟨Nat.le_trans hl (by rw [sizeLine_eq]; decide), rfl⟩, GoodV.here g st rfl⟩
    · exact g.elim
  · unfold lenO at g
    split at g
    · rename_i xs h1
      obtain ⟨c, ws, rfl, rd, q⟩ := lst_at st ra (view_lst h1)
      refine call_len pins s σ H _ us Q I r ⟨_, ws.length, rfl, .inl ⟨ws, SqL.rd rd, rfl⟩, ?_⟩
      rw [Reps.length q]
      exact GoodV.here g st rfl
    · rename_i kvs h2
      obtain ⟨c, rfl, d⟩ := dct_at st ra (view_dct h2)
      obtain ⟨u, rfl, ru⟩ := one_rel r
      cases ru
      rcases d with ⟨L, rd, q⟩ | ⟨L, rd, q⟩ | ⟨L, rd, mx, q⟩
      rotate_left 2
      · have m := mx_at (P := X.prog) (rd.ok I.hok)
        obtain ⟨o, es, ep, ho, hx, hdat, pr, _⟩ := m.2.2
        have e : es.size = kvs.length := by rw [← Array.length_toList, ← Paired.length pr, RepM.length q]
        have hz : es.size ≤ sizeLine := by rw [← Array.length_toList, ← Paired.length pr]; exact m.1
        rw [sizeLine_eq] at hz
        refine PyProof.Rows.call_len_slot (n := es.size) (typeIs_mx m) PySem.F.slot_dict_len (fun Q' hq => call_len_raw m.2.1 ⟨o, ho, hx, hdat⟩ hq) (by omega) (by omega) ?_
        rw [e]
        exact ⟨.int (kvs.length : Nat), H, I.tok _, ⟨_, rfl⟩, GoodV.here g st rfl⟩
      · obtain ⟨z, hd, xs, t, dd⟩ := dt_rd I.hok rd
        have e : xs.length = kvs.length := by rw [← Paired.length t, RepT.length q]
        have z' : xs.length ≤ sizeLine := by rw [← Paired.length t]; exact z
        refine call_len_dictH hd dd (by omega) ?_
        rw [e]
        exact ⟨.int (kvs.length : Nat), H, I.tok _, ⟨_, rfl⟩, GoodV.here g st rfl⟩
      · refine d_len I rd fun t s' I' => ⟨.int (L.length : Nat), H, I', ⟨t, rfl⟩, ?_⟩
        rw [RepK.length q]
        exact GoodV.here g st rfl
    · exact g.elim
theorem bools_of : ∀ {xs : List D} {us : List V} {b : Bool}, Reps G H w xs us → allB xs = some b → ∃ bs : List Bool, us = bs.map V.bl ∧ bs.all id = b
  | [], _, b, h, e => by
    have h : _ = [] := h
    subst h
    cases e
    exact ⟨[], rfl, rfl⟩
  | x :: xs, _, b, ⟨u, r, e1, p, q⟩, e => by
    subst e1
    cases x with
    | bl c =>
      cases p
      simp only [allB] at e
      cases e2 : allB xs with
      | none => rw [e2] at e; cases e
      | some c' =>
        rw [e2] at e
        cases e
        obtain ⟨bs, rfl, h⟩ := bools_of q e2
        exact ⟨c :: bs, rfl, by simp [h, id]⟩
    | _ => simp [allB] at e
theorem bools_any : ∀ {xs : List D} {us : List V} {b : Bool}, Reps G H w xs us → anyB xs = some b → ∃ bs : List Bool, us = bs.map V.bl ∧ bs.any id = b
  | [], _, b, h, e => by
    have h : _ = [] := h
    subst h
    cases e
    exact ⟨[], rfl, rfl⟩
  | x :: xs, _, b, ⟨u, r, e1, p, q⟩, e => by
    subst e1
    cases x with
    | bl c =>
      cases p
      simp only [anyB] at e
      cases e2 : anyB xs with
      | none => rw [e2] at e; cases e
      | some c' =>
        rw [e2] at e
        cases e
        obtain ⟨bs, rfl, h⟩ := bools_any q e2
        exact ⟨c :: bs, rfl, by simp [h, id]⟩
    | _ => simp [anyB] at e
theorem ints_of : ∀ {xs : List D} {us : List V} {is : List Int}, Reps G H w xs us → intsOf xs = some is → us = is.map V.int
  | [], _, _, h, e => by
    have h : _ = [] := h
    subst h
    cases e
    rfl
  | x :: xs, _, is, ⟨u, r, e1, p, q⟩, e => by
    subst e1
    cases x with
    | int i =>
      cases p
      simp only [intsOf] at e
      obtain ⟨js, e2, rfl⟩ := Option.map_eq_some_iff.mp e
      rw [ints_of q e2]
      rfl
    | _ => simp [intsOf] at e
theorem all_ok (hc : X.calm = true) (m : Bool) : CallR X (.builtin "all") (rDC G fun S a => builtin m S .all a) := by
  intro pins s σ H vs us Q I r ⟨x, w, S, a, ev, st, ra, g⟩
  subst ev
  replace g : GoodN G H w (overB S a allB) Q := g
  unfold overB at g
  split at g
  · rename_i xs h1
    split at g
    · rename_i b hb
      obtain ⟨c, ws, rfl, rd, q⟩ := lst_at st ra h1
      obtain ⟨bs, rfl, e⟩ := bools_of q hb
      exact cr_all hc pins s σ H _ us Q I r ⟨c, bs, rfl, SqL.rd rd, by rw [e]; exact GoodV.here g st rfl⟩
    · exact g.elim
  · exact g.elim
theorem any_ok (hc : X.calm = true) (m : Bool) : CallR X (.builtin "any") (rDC G fun S a => builtin m S .any a) := by
  intro pins s σ H vs us Q I r ⟨x, w, S, a, ev, st, ra, g⟩
  subst ev
  replace g : GoodN G H w (overB S a anyB) Q := g
  unfold overB at g
  split at g
  · rename_i xs h1
    split at g
    · rename_i b hb
      obtain ⟨c, ws, rfl, rd, q⟩ := lst_at st ra h1
      obtain ⟨bs, rfl, e⟩ := bools_any q hb
      exact cr_any hc pins s σ H _ us Q I r ⟨c, bs, rfl, SqL.rd rd, by rw [e]; exact GoodV.here g st rfl⟩
    · exact g.elim
  · exact g.elim
theorem overI_ok {f : List Int → Option Int} {a : D} {x : V} {Q : VK} (st : StoR G w S H) (ra : Rep G H w a x) (g : GoodN G H w (overI S a f) Q) : ∃ c is i, x = .ref c ∧ SqL X.K H c (is.map V.int) ∧ f is = some i ∧ Q (.int i) H := by
  unfold overI at g
  split at g
  · rename_i xs h1
    split at g
    · rename_i is h2
      split at g
      · rename_i i h3
        obtain ⟨c, ws, rfl, rd, q⟩ := lst_at st ra h1
        rw [ints_of q h2] at rd
        exact ⟨c, is, i, rfl, SqL.rd rd, h3, GoodV.here g st rfl⟩
      · exact g.elim
    · exact g.elim
  · exact g.elim
theorem maxI_spec : ∀ (r : List Int) (i : Int), maxI i r ∈ i :: r ∧ ∀ y ∈ i :: r, y ≤ maxI i r
  | [], i => ⟨by simp [maxI], by simp [maxI]⟩
  | j :: r, i => by
    by_cases hj : j > i
    · have h := maxI_spec r j
      have e : maxI i (j :: r) = maxI j r := by rw [maxI, if_pos hj]
      rw [e]
      refine ⟨List.mem_cons_of_mem _ h.1, fun y hy => ?_⟩
      have h1 := h.2 j List.mem_cons_self
      rcases List.mem_cons.mp hy with z | z
      · subst z; omega
      · exact h.2 y z
    · have h := maxI_spec r i
      have e : maxI i (j :: r) = maxI i r := by rw [maxI, if_neg hj]
      rw [e]
      have h1 := h.2 i List.mem_cons_self
      refine ⟨?_, fun y hy => ?_⟩
      · rcases List.mem_cons.mp h.1 with z | z
        · rw [z]; exact List.mem_cons_self
        · exact List.mem_cons_of_mem _ (List.mem_cons_of_mem _ z)
      · rcases List.mem_cons.mp hy with z | z
        · subst z; exact h1
        · rcases List.mem_cons.mp z with z | z
          · subst z; omega
          · exact h.2 y (List.mem_cons_of_mem _ z)
theorem max_ok (hc : X.calm = true) (m : Bool) : CallR X (.builtin "max") (rDC G fun S a => builtin m S .max a) := by
  intro pins s σ H vs us Q I r ⟨x, w, S, a, ev, st, ra, g⟩
  subst ev
  obtain ⟨c, is, i, rfl, sq, e, q⟩ := overI_ok (X := X) (f := maxL) st ra g
  cases is with
  | nil => simp [maxL] at e
  | cons j t =>
    simp only [maxL, Option.some.injEq] at e
    subst e
    have sp := maxI_spec t j
    refine cr_max hc pins s σ H _ us Q I r ⟨c, j :: t, rfl, sq, by simp, fun m' h1 h2 => ?_⟩
    have e : m' = maxI j t := Int.le_antisymm (sp.2 m' h1) (h2 _ sp.1)
    rw [e]
    exact q
theorem sum_ok (hc : X.calm = true) (m : Bool) : CallR X (.builtin "sum") (rDC G fun S a => builtin m S .sum a) := by
  intro pins s σ H vs us Q I r ⟨x, w, S, a, ev, st, ra, g⟩
  subst ev
  obtain ⟨c, is, i, rfl, sq, e, q⟩ := overI_ok (X := X) (f := fun is => some is.sum) st ra g
  cases e
  exact cr_sum hc pins s σ H _ us Q I r ⟨c, is, rfl, sq, q⟩
theorem tuple_ok (m : Bool) : CallR X (.type "tuple") (rDC G fun S a => builtin m S .tuple a) := by
  intro pins s σ H vs us Q I r ⟨x, w, S, a, ev, st, ra, g⟩
  subst ev
  replace g : GoodN G H w (match lstOf S a with
    | some xs => .ok (.tup xs) S
    | none => .bad) Q := g
  split at g
  · rename_i xs h1
    obtain ⟨c, ws, rfl, rd, q⟩ := lst_at st ra h1
    exact call_tuple_of pins s σ H _ us Q I r ⟨c, ws, rfl, .inl ⟨SqL.rd rd, fun l hl => GoodV.newTup g st q hl⟩⟩
  · exact g.elim
end
end Lt
namespace Lt
open PySem L2 PySem.Spec PyProof.Rows
mutual
/-- every place within lies below n -/
def below (n : Nat) : D → Prop
  | .loc l => l < n
  | .tup xs => belows n xs
  | .vl xs => belows n xs
  | .vd kvs => belowK n kvs
  | _ => True
def belows (n : Nat) : List D → Prop
  | [] => True
  | x :: xs => below n x ∧ belows n xs
def belowK (n : Nat) : List (D × D) → Prop
  | [] => True
  | (_, v) :: r => below n v ∧ belowK n r
end
def belowF (n : Nat) : List (Str × D) → Prop
  | [] => True
  | (_, v) :: r => below n v ∧ belowF n r
mutual
theorem below_of_noLoc (n : Nat) : ∀ d : D, noLoc d = true → below n d
  | .non, _ => trivial
  | .bl _, _ => trivial
  | .int _, _ => trivial
  | .str _, _ => trivial
  | .fn _, _ => trivial
  | .tup xs, h => belows_of_noLoc n xs h
  | .vl xs, h => belows_of_noLoc n xs h
  | .vd kvs, h => belowK_of_noLoc n kvs h
  | .loc _, h => by simp [noLoc] at h
theorem belows_of_noLoc (n : Nat) : ∀ d : List D, noLocs d = true → belows n d
  | [], _ => trivial
  | x :: xs, h => by
    simp only [noLocs, Bool.and_eq_true] at h
    exact ⟨below_of_noLoc n x h.1, belows_of_noLoc n xs h.2⟩
theorem belowK_of_noLoc (n : Nat) : ∀ d : List (D × D), noLocK d = true → belowK n d
  | [], _ => trivial
  | (_, x) :: xs, h => by
    simp only [noLocK, Bool.and_eq_true] at h
    exact ⟨below_of_noLoc n x h.1, belowK_of_noLoc n xs h.2⟩
end
section
variable {G : AMap} {H H2 : Hp} {w w2 w3 : Wd} {W : XK} {S S' : Sto} {n : Nat}
mutual
theorem Rep.below : ∀ (d : D) (v : V), Rep G H w d v → below w.ph.length d
  | .non, _, _ => trivial
  | .bl _, _, _ => trivial
  | .int _, _, _ => trivial
  | .str _, _, _ => trivial
  | .fn _, _, _ => trivial
  | .tup xs, v, ⟨a, us, e1, r, q⟩ => Reps.below xs us q
  | .vl xs, v, ⟨a, us, e1, f, r, q⟩ => Reps.below xs us q
  | .vd kvs, v, ⟨a, e1, f, q⟩ => q.elim (fun ⟨L, r, t⟩ => RepT.below kvs L t) fun q => q.elim (fun ⟨L, r, t⟩ => RepK.below kvs L t) fun ⟨L, r, _, t⟩ => RepM.below kvs L t
  | .loc l, v, ⟨a, e1, q⟩ => (List.getElem?_eq_some_iff.mp q).1
theorem Reps.below : ∀ (xs : List D) (us : List V), Reps G H w xs us → belows w.ph.length xs
  | [], _, _ => trivial
  | x :: xs, _, ⟨u, r, e1, a, b⟩ => ⟨Rep.below x u a, Reps.below xs r b⟩
theorem RepT.below : ∀ (xs : List (D × D)) (L : List (List Key × V)), RepT G H w xs L → belowK w.ph.length xs
  | [], _, _ => trivial
  | (k, d) :: xs, _, ⟨ks, u, r, e1, e2, a, b⟩ => ⟨Rep.below d u a, RepT.below xs r b⟩
theorem RepK.below : ∀ (xs : List (D × D)) (L : List (Key × V)), RepK G H w xs L → belowK w.ph.length xs
  | [], _, _ => trivial
  | (k, d) :: xs, _, ⟨ks, u, r, e1, e2, a, b⟩ => ⟨Rep.below d u a, RepK.below xs r b⟩
theorem RepM.below : ∀ (xs : List (D × D)) (L : List (MEnt × V)), RepM G H w xs L → belowK w.ph.length xs
  | [], _, _ => trivial
  | (k, d) :: xs, _, ⟨ks, u, r, e1, e2, t, a, b⟩ => ⟨Rep.below d u a, RepM.below xs r b⟩
end
theorem RepF.below : ∀ (fs : List (Str × D)) (gs : List (Str × V)), RepF G H w fs gs → belowF w.ph.length fs
  | [], _, _ => trivial
  | (_, d) :: fs, _, ⟨u, gs', e1, a, b⟩ => ⟨Rep.below d u a, RepF.below fs gs' b⟩
/-- two ways to place, alike below n -/
structure Like (n : Nat) (w w3 : Wd) : Prop where
  ph : ∀ (l : Nat) a, l < n → w.ph[l]? = some a → w3.ph[l]? = some a
  fz : ∀ a, w.Fz a → w3.Fz a
mutual
theorem Rep.like (e : Like n w w3) : ∀ (d : D) (v : V), Lt.below n d → Rep G H w d v → Rep G H w3 d v
  | .non, _, _, h => h
  | .bl _, _, _, h => h
  | .int _, _, _, h => h
  | .str _, _, _, h => h
  | .fn _, _, _, h => h
  | .tup xs, v, z, ⟨a, us, e1, r, q⟩ => ⟨a, us, e1, r, Reps.like e xs us z q⟩
  | .vl xs, v, z, ⟨a, us, e1, f, r, q⟩ => ⟨a, us, e1, e.fz a f, r, Reps.like e xs us z q⟩
  | .vd kvs, v, z, ⟨a, e1, f, q⟩ => ⟨a, e1, e.fz a f, q.elim (fun ⟨L, r, t⟩ => .inl ⟨L, r, RepT.like e kvs L z t⟩) fun q => .inr (q.elim (fun ⟨L, r, t⟩ => .inl ⟨L, r, RepK.like e kvs L z t⟩) fun ⟨L, r, x, t⟩ => .inr ⟨L, r, x, RepM.like e kvs L z t⟩)⟩
  | .loc l, v, z, ⟨a, e1, q⟩ => ⟨a, e1, e.ph l a z q⟩
theorem Reps.like (e : Like n w w3) : ∀ (xs : List D) (us : List V), Lt.belows n xs → Reps G H w xs us → Reps G H w3 xs us
  | [], _, _, h => h
  | x :: xs, _, z, ⟨u, r, e1, a, b⟩ => ⟨u, r, e1, Rep.like e x u z.1 a, Reps.like e xs r z.2 b⟩
theorem RepT.like (e : Like n w w3) : ∀ (xs : List (D × D)) (L : List (List Key × V)), Lt.belowK n xs → RepT G H w xs L → RepT G H w3 xs L
  | [], _, _, h => h
  | (k, d) :: xs, _, z, ⟨ks, u, r, e1, e2, a, b⟩ => ⟨ks, u, r, e1, e2, Rep.like e d u z.1 a, RepT.like e xs r z.2 b⟩
theorem RepK.like (e : Like n w w3) : ∀ (xs : List (D × D)) (L : List (Key × V)), Lt.belowK n xs → RepK G H w xs L → RepK G H w3 xs L
  | [], _, _, h => h
  | (k, d) :: xs, _, z, ⟨ks, u, r, e1, e2, a, b⟩ => ⟨ks, u, r, e1, e2, Rep.like e d u z.1 a, RepK.like e xs r z.2 b⟩
theorem RepM.like (e : Like n w w3) : ∀ (xs : List (D × D)) (L : List (MEnt × V)), Lt.belowK n xs → RepM G H w xs L → RepM G H w3 xs L
  | [], _, _, h => h
  | (k, d) :: xs, _, z, ⟨ks, u, r, e1, e2, t, a, b⟩ => ⟨ks, u, r, e1, e2, t, Rep.like e d u z.1 a, RepM.like e xs r z.2 b⟩
end
theorem RepF.like (e : Like n w w3) : ∀ (fs : List (Str × D)) (gs : List (Str × V)), belowF n fs → RepF G H w fs gs → RepF G H w3 fs gs
  | [], _, _, h => h
  | (_, d) :: fs, _, z, ⟨u, gs', e1, a, b⟩ => ⟨u, gs', e1, Rep.like e d u z.1 a, RepF.like e fs gs' z.2 b⟩
def Ob.below (n : Nat) : Ob → Prop
  | .lst xs => belows n xs
  | .dct kvs => belowK n kvs
  | .fdct kvs => belowK n kvs
  | .ins _ fs => belowF n fs
theorem ObR.below {o : Ob} {a : Addr} (h : ObR G H w o a) : o.below w.ph.length := by
  cases o with
  | lst xs => obtain ⟨us, _, q⟩ := h; exact Reps.below _ _ q
  | dct kvs => exact h.elim (fun ⟨L, _, q⟩ => RepT.below _ _ q) fun h => h.elim (fun ⟨L, _, q⟩ => RepK.below _ _ q) fun ⟨L, _, _, q⟩ => RepM.below _ _ q
  | fdct kvs => exact h.elim (fun ⟨L, _, q⟩ => RepT.below _ _ q) fun h => h.elim (fun ⟨L, _, q⟩ => RepK.below _ _ q) fun ⟨L, _, _, q⟩ => RepM.below _ _ q
  | ins c fs => obtain ⟨C, dx, gs, _, _, q⟩ := h; exact RepF.below _ _ q
theorem Ob.below_of_noLoc {o : Ob} (h : o.noLoc = true) : o.below n := by
  cases o with
  | lst xs => exact belows_of_noLoc n _ h
  | dct kvs => exact belowK_of_noLoc n _ h
  | fdct kvs => exact belowK_of_noLoc n _ h
  | ins c fs => simp [Ob.noLoc] at h
theorem ObR.like (e : Like n w w3) {o : Ob} {a : Addr} (z : o.below n) (h : ObR G H w o a) : ObR G H w3 o a := by
  cases o with
  | lst xs => obtain ⟨us, h1, q⟩ := h; exact ⟨us, h1, Reps.like e _ _ z q⟩
  | dct kvs =>
    rcases h with ⟨L, h1, q⟩ | ⟨L, h1, q⟩ | ⟨L, h1, x, q⟩
    · exact .inl ⟨L, h1, RepT.like e _ _ z q⟩
    · exact .inr (.inl ⟨L, h1, RepK.like e _ _ z q⟩)
    · exact .inr (.inr ⟨L, h1, x, RepM.like e _ _ z q⟩)
  | fdct kvs =>
    rcases h with ⟨L, h1, q⟩ | ⟨L, h1, q⟩ | ⟨L, h1, x, q⟩
    · exact .inl ⟨L, h1, RepT.like e _ _ z q⟩
    · exact .inr (.inl ⟨L, h1, RepK.like e _ _ z q⟩)
    · exact .inr (.inr ⟨L, h1, x, RepM.like e _ _ z q⟩)
  | ins c fs => obtain ⟨C, dx, gs, g, h1, q⟩ := h; exact ⟨C, dx, gs, g, h1, RepF.like e _ _ z q⟩
theorem Ob.same_eq {o u : Ob} (h : Ob.same o u = true) : o = u := by
  cases o <;> cases u <;> simp only [Ob.same, Bool.false_eq_true, Bool.and_eq_true, D.sames_iff, D.sameK_iff, beq_iff_eq] at h
  · rw [h]
  · rw [h]
  · rw [h]
  · rename_i c f d g
    obtain ⟨h1, h2, h3⟩ := h
    have : f = g := by
      apply List.ext_getElem?
      intro i
      have a := congrArg (fun l : List Str => l[i]?) h2
      have b := congrArg (fun l : List D => l[i]?) h3
      simp only [List.getElem?_map] at a b
      cases e1 : f[i]? with
      | none => rw [e1] at a; cases e2 : g[i]? with
        | none => rfl
        | some y => rw [e2] at a; simp at a
      | some x => rw [e1] at a b; cases e2 : g[i]? with
        | none => rw [e2] at a; simp at a
        | some y =>
          rw [e2] at a b
          simp only [Option.map_some, Option.some.injEq] at a b
          rw [Option.some.injEq]
          exact Prod.ext a b
    rw [h1, this]
theorem kept_at : ∀ (S S' : Sto), kept S S' = true → ∀ (l : Nat) o, S[l]? = some o → ∃ u, S'[l]? = some u ∧ (o = u ∨ u.noLoc = true)
  | [], _, _, l, o, e => by simp at e
  | o :: r, [], h, _, _, _ => by simp [kept] at h
  | o :: r, u :: v, h, l, p, e => by
    simp only [kept, Bool.and_eq_true, Bool.or_eq_true] at h
    cases l with
    | zero =>
      obtain rfl : o = p := by simpa using e
      exact ⟨u, rfl, h.1.symm.imp Ob.same_eq id⟩
    | succ l =>
      obtain ⟨u', e1, e2⟩ := kept_at r v h.2 l p (by simpa using e)
      exact ⟨u', by simpa using e1, e2⟩
/-- the old part of the store, by itself -/
theorem StoR.cut (st : StoR G w S H) (ex : Ext H w H2 w2) (st2 : StoR G w2 S' H2) (k : kept S S' = true) {w3 : Wd} (lk : Like S.length w2 w3) (hl : w3.ph.length = S.length) (hn : w3.ph.Nodup)
    (hp : ∀ (l : Nat) a, w3.ph[l]? = some a → w2.ph[l]? = some a) (ha : ∀ a, w3.Fz a → a ∉ w3.ph) (hf : ∀ a, w3.Fz a → H2 a ≠ none) : StoR G w3 (S'.take S.length) H2 where
  len := by
    rw [List.length_take, hl]
    by_cases z : S.length = 0
    · rw [z]; simp
    · have : S.length - 1 < S.length := by omega
      obtain ⟨u, e, _⟩ := kept_at S S' k (S.length - 1) _ (List.getElem?_eq_getElem this)
      have := (List.getElem?_eq_some_iff.mp e).1
      omega
  nd := hn
  ob := fun l a e => by
    have hlt : l < S.length := by rw [← hl]; exact (List.getElem?_eq_some_iff.mp e).1
    obtain ⟨u, h1, h2⟩ := st2.ob l a (hp l a e)
    obtain ⟨u', e1, e2⟩ := kept_at S S' k l _ (List.getElem?_eq_getElem hlt)
    rw [h1] at e1
    obtain rfl : u = u' := Option.some.inj e1
    refine ⟨u, by rw [List.getElem?_take_of_lt hlt]; exact h1, h2.like lk ?_⟩
    rcases e2 with e2 | e2
    · have hw : l < w.ph.length := by rw [st.len]; exact hlt
      obtain ⟨o, q1, q2⟩ := st.ob l _ (List.getElem?_eq_getElem hw)
      rw [List.getElem?_eq_getElem hlt] at q1
      have := Option.some.inj q1
      rw [← e2, this, ← st.len]
      exact q2.below
    · exact Ob.below_of_noLoc e2
  ap := ha
  fz := hf
  fr := st2.fr
  gd := st2.gd
  gg := st2.gg
theorem kept_len (k : kept S S' = true) : S.length ≤ S'.length := by
  by_cases z : S.length = 0
  · omega
  · have : S.length - 1 < S.length := by omega
    obtain ⟨u, e, _⟩ := kept_at S S' k (S.length - 1) _ (List.getElem?_eq_getElem this)
    have := (List.getElem?_eq_some_iff.mp e).1
    omega
theorem fin_ok {fz : Bool} {d : D} {Q : VK} (st : StoR G w S H) (h : GoodR G H w W (fin fz S d S') Q) : GoodV G H w d S' Q := by
  intro w2 v H2 ex st2 rp
  unfold fin at h
  split at h
  · rename_i k
    have kl := kept_len k
    have l2 : w2.ph.length = S'.length := st2.len
    have lt : Like S.length w2 ⟨w2.ph.take S.length, w2.Fz⟩ := ⟨fun l a hl e => by
      show (w2.ph.take S.length)[l]? = _
      rw [List.getElem?_take_of_lt hl]; exact e, fun a f => f⟩
    have hpt : ∀ (l : Nat) a, (w2.ph.take S.length)[l]? = some a → w2.ph[l]? = some a := fun l a e => by
      have := (List.getElem?_eq_some_iff.mp e).1
      rw [List.length_take] at this
      rw [List.getElem?_take_of_lt (by omega)] at e
      exact e
    have htl : (w2.ph.take S.length).length = S.length := by rw [List.length_take]; omega
    have tnd : (w2.ph.take S.length).Nodup := st2.nd.sublist (List.take_sublist _ _)
    have hmem : ∀ a, a ∈ w2.ph.take S.length → a ∈ w2.ph := fun a m => List.mem_of_mem_take m
    have ext : Ext H w H2 ⟨w2.ph.take S.length, w2.Fz⟩ := ⟨ex.tup, ex.frz, ex.fz, fun l a e => by
      have hw : l < w.ph.length := (List.getElem?_eq_some_iff.mp e).1
      rw [st.len] at hw
      exact lt.ph l a hw (ex.ph l a e), ex.keep, fun a m => ex.newP a (hmem a m), ex.newF⟩
    have st3 : StoR G ⟨w2.ph.take S.length, w2.Fz⟩ (S'.take S.length) H2 := st.cut ex st2 k lt htl tnd hpt (fun a f m => st2.ap a f (hmem a m)) st2.fz
    split at h
    · rename_i nl
      exact h _ v H2 ext st3 (Rep.like lt d v (below_of_noLoc _ d nl) rp)
    · split at h
      · rename_i l hnl
        obtain ⟨a, rfl, hpl⟩ := rp
        split at h
        · rename_i hl
          have ha : a ∉ w2.ph.take S.length := fun m => by
            obtain ⟨j, hj⟩ := List.mem_iff_getElem?.mp m
            have h1 := (List.getElem?_eq_some_iff.mp hj).1
            have h2 := (List.getElem?_inj (by rw [List.length_take] at h1; omega) st2.nd).mp ((hpt j a hj).trans hpl.symm)
            rw [List.length_take] at h1
            omega
          have lz : Like S.length w2 ⟨w2.ph.take S.length, fun b => w2.Fz b ∨ b = a⟩ := ⟨lt.ph, fun b f => .inl f⟩
          have na : a ∉ w.ph := fun m => by
            obtain ⟨j, hj⟩ := List.mem_iff_getElem?.mp m
            have h1 := (List.getElem?_eq_some_iff.mp hj).1
            have hj2 := ex.ph j a hj
            have h3 := (List.getElem?_eq_some_iff.mp hj2).1
            have h2 := (List.getElem?_inj h3 st2.nd).mp (hj2.trans hpl.symm)
            rw [st.len] at h1
            omega
          have ha0 : H a = none := (ex.newP a (List.mem_of_getElem? hpl)).resolve_left na
          have ez : Ext H w H2 ⟨w2.ph.take S.length, fun b => w2.Fz b ∨ b = a⟩ := ⟨ex.tup, ex.frz, fun b f => ⟨.inl (ex.fz b f).1, (ex.fz b f).2⟩, ext.ph, ex.keep, ext.newP, fun b f => f.elim (ex.newF b) fun z => by subst z; exact .inr ⟨na, ha0⟩⟩
          have sz : StoR G ⟨w2.ph.take S.length, fun b => w2.Fz b ∨ b = a⟩ (S'.take S.length) H2 := st.cut ex st2 k lz htl tnd hpt (fun b f m => by
            rcases f with f | f
            · exact st2.ap b f (hmem b m)
            · exact ha (f ▸ m)) (fun b f => by
            rcases f with f | f
            · exact st2.fz b f
            · rw [f]; exact st2.there hpl)
          have lm : Like S.length w2 ⟨w2.ph.take S.length ++ [a], w2.Fz⟩ := ⟨fun j b hj e => by
            show (w2.ph.take S.length ++ [a])[j]? = _
            rw [List.getElem?_append_left (by omega)]
            exact lt.ph j b hj e, fun b f => f⟩
          have em : Ext H w H2 ⟨w2.ph.take S.length ++ [a], w2.Fz⟩ := ⟨ex.tup, ex.frz, ex.fz, fun j b e => by
            have hw : j < w.ph.length := (List.getElem?_eq_some_iff.mp e).1
            rw [st.len] at hw
            exact lm.ph j b hw (ex.ph j b e), ex.keep, fun b m => (List.mem_append.mp m).elim (ext.newP b) fun z => by
              obtain rfl : b = a := by simpa using z
              exact .inr ha0, ex.newF⟩
          have hat : (w2.ph.take S.length ++ [a])[S.length]? = some a := by
            rw [List.getElem?_append_right (by omega), htl]
            simp
          have smk : ∀ ob : Ob, ob.noLoc = true → ObR G H2 w2 ob a → StoR G ⟨w2.ph.take S.length ++ [a], w2.Fz⟩ (S'.take S.length ++ [ob]) H2 := fun ob nb rb => {
            len := by
              show (w2.ph.take S.length ++ [a]).length = _
              rw [List.length_append, List.length_append, htl, st3.len.symm.trans htl]; rfl
            nd := by
              show (w2.ph.take S.length ++ [a]).Nodup
              rw [List.nodup_append]
              refine ⟨tnd, by simp, fun x m b hb z => ?_⟩
              have : b = a := by simpa using hb
              subst this; subst z
              exact ha m
            ob := fun j b e => by
              have e : (w2.ph.take S.length ++ [a])[j]? = some b := e
              by_cases hj : j < S.length
              · rw [List.getElem?_append_left (by omega)] at e
                obtain ⟨o', h1, h2⟩ := st3.ob j b e
                have lk2 : Like S.length ⟨w2.ph.take S.length, w2.Fz⟩ ⟨w2.ph.take S.length ++ [a], w2.Fz⟩ := ⟨fun i c hi ec => by
                  show (w2.ph.take S.length ++ [a])[i]? = _
                  rw [List.getElem?_append_left (by omega)]; exact ec, fun c f => f⟩
                have hb2 := h2.below
                rw [show (⟨w2.ph.take S.length, w2.Fz⟩ : Wd).ph.length = S.length from htl] at hb2
                refine ⟨o', ?_, ObR.like lk2 hb2 h2⟩
                rw [List.getElem?_append_left (by rw [st3.len.symm.trans htl]; exact hj)]
                exact h1
              · have hz : j = S.length := by
                  have := (List.getElem?_eq_some_iff.mp e).1
                  rw [List.length_append, htl] at this
                  simp at this
                  omega
                subst hz
                rw [hat] at e
                obtain rfl : a = b := Option.some.inj e
                refine ⟨ob, ?_, rb.like lm (Ob.below_of_noLoc nb)⟩
                rw [List.getElem?_append_right (by rw [st3.len.symm.trans htl]; omega), st3.len.symm.trans htl]
                simp
            ap := fun b f m => by
              rcases List.mem_append.mp m with m | m
              · exact st2.ap b f (hmem b m)
              · have : b = a := by simpa using m
                subst this
                exact st2.ap b f (List.mem_of_getElem? hpl)
            fz := st2.fz
            fr := st2.fr
            gd := st2.gd
            gg := st2.gg }
          obtain ⟨ob, h1, h2⟩ := st2.ob l a hpl
          split at h
          · rename_i xs hx
            rw [h1] at hx
            obtain rfl : ob = .lst xs := Option.some.inj hx
            split at h
            · rename_i nl
              split at h
              · obtain ⟨us, e1, q⟩ := h2
                exact h _ _ H2 ez sz ⟨a, us, rfl, .inr rfl, .inl e1, Reps.like lz xs us (belows_of_noLoc _ _ nl) q⟩
              · exact h _ _ H2 em (smk _ nl h2) ⟨a, rfl, hat⟩
            · exact h w2 _ H2 ex st2 ⟨a, rfl, hpl⟩
          · rename_i kvs hx
            rw [h1] at hx
            obtain rfl : ob = .dct kvs := Option.some.inj hx
            split at h
            · rename_i nl
              split at h
              · refine h _ _ H2 ez sz ⟨a, rfl, .inr rfl, ?_⟩
                rcases h2 with ⟨L, e1, q⟩ | ⟨L, e1, q⟩ | ⟨L, e1, x, q⟩
                · exact .inl ⟨L, .inl e1, RepT.like lz _ _ (belowK_of_noLoc _ _ nl) q⟩
                · exact .inr (.inl ⟨L, .inl e1, RepK.like lz _ _ (belowK_of_noLoc _ _ nl) q⟩)
                · exact .inr (.inr ⟨L, .inl e1, x, RepM.like lz _ _ (belowK_of_noLoc _ _ nl) q⟩)
              · exact h _ _ H2 em (smk _ nl h2) ⟨a, rfl, hat⟩
            · exact h w2 _ H2 ex st2 ⟨a, rfl, hpl⟩
          · exact h w2 _ H2 ex st2 ⟨a, rfl, hpl⟩
        · exact h w2 _ H2 ex st2 ⟨a, rfl, hpl⟩
      · exact h w2 v H2 ex st2 rp
  · exact h w2 v H2 ex st2 rp
/-- more places, more values, nothing else -/
theorem Like.more {p : Addr} (n : Nat) : Like n w (w.more p) := ⟨fun l a _ e => by
  show (w.ph ++ [p])[l]? = _
  rw [List.getElem?_append_left (List.getElem?_eq_some_iff.mp e).1]
  exact e, fun _ f => f⟩
theorem Like.froze {p : Addr} (n : Nat) : Like n w (w.froze p) := ⟨fun _ _ _ e => e, fun _ f => .inl f⟩
theorem StoR.like {w3 : Wd} (st : StoR G w S H) (lk : Like w.ph.length w w3) (e : w3.ph = w.ph) (ap : ∀ a, w3.Fz a → a ∉ w3.ph) (fz : ∀ a, w3.Fz a → H a ≠ none) : StoR G w3 S H where
  len := by rw [e]; exact st.len
  nd := by rw [e]; exact st.nd
  ob := fun l a q => by
    rw [e] at q
    obtain ⟨o, h1, h2⟩ := st.ob l a q
    exact ⟨o, h1, h2.like lk h2.below⟩
  ap := ap
  fz := fz
  fr := st.fr
  gd := st.gd
  gg := st.gg
/-- a list that stands becomes a place -/
theorem StoR.adopt (st : StoR G w S H) {p : Addr} {us : List V} {xs : List D} (hp : H p = some (.lst us)) (hl : p ∉ w.ph) (hF : ¬ w.Fz p) (r : Reps G H w xs us) : StoR G (w.more p) (S ++ [.lst xs]) H where
  len := by show (w.ph ++ [p]).length = _; rw [List.length_append, List.length_append, st.len]; rfl
  nd := by
    show (w.ph ++ [p]).Nodup
    rw [List.nodup_append]
    refine ⟨st.nd, by simp, fun a m b hb z => ?_⟩
    have : b = p := by simpa using hb
    subst this; subst z
    exact hl m
  ob := fun l a e => by
    have e : (w.ph ++ [p])[l]? = some a := e
    by_cases hk : l < w.ph.length
    · rw [List.getElem?_append_left hk] at e
      obtain ⟨o', h1, h2⟩ := st.ob l a e
      refine ⟨o', ?_, h2.like (Like.more _) h2.below⟩
      rw [List.getElem?_append_left (by rw [← st.len]; exact hk)]
      exact h1
    · have hz : l = w.ph.length := by
        have := (List.getElem?_eq_some_iff.mp e).1
        rw [List.length_append] at this
        simp at this
        omega
      subst hz
      rw [List.getElem?_append_right (Nat.le_refl _)] at e
      obtain rfl : p = a := by simpa using e
      refine ⟨.lst xs, ?_, us, hp, Reps.like (Like.more _) _ _ (Reps.below _ _ r) r⟩
      rw [st.len, List.getElem?_append_right (Nat.le_refl _)]
      simp
  ap := fun a f m => by
    rcases List.mem_append.mp m with m | m
    · exact st.ap a f m
    · have : a = p := by simpa using m
      exact hF (this ▸ f)
  fz := st.fz
  fr := st.fr
  gd := st.gd
  gg := st.gg
theorem Ext.adopt {H0 : Hp} {w0 : Wd} (e : Ext H0 w0 H w) {p : Addr} (h0 : H0 p = none) : Ext H0 w0 H (w.more p) :=
  ⟨e.tup, e.frz, e.fz, fun l a q => (Like.more (p := p) (l + 1)).ph l a (Nat.lt_succ_self l) (e.ph l a q), e.keep, fun a m => (List.mem_append.mp m).elim (e.newP a) fun z => by
    obtain rfl : a = p := by simpa using z
    exact .inr h0, e.newF⟩
theorem Ext.adoptF {H0 : Hp} {w0 : Wd} (e : Ext H0 w0 H w) {p : Addr} (h0 : H0 p = none) (hn : p ∉ w0.ph) : Ext H0 w0 H (w.froze p) :=
  ⟨e.tup, e.frz, fun a f => ⟨.inl (e.fz a f).1, (e.fz a f).2⟩, e.ph, e.keep, e.newP, fun a f => f.elim (e.newF a) fun z => by subst z; exact .inr ⟨hn, h0⟩⟩
/-- a list that stands, told -/
theorem GoodR.adopt {H0 : Hp} {w0 : Wd} {m : Bool} {xs : List D} {us : List V} {Q : VK} (h : GoodR G H0 w0 W (mkL m xs S) Q) (e : Ext H0 w0 H w) (st : StoR G w S H) {p : Addr} (h0 : H0 p = none) (hn : p ∉ w0.ph) (hp : H p = some (.lst us)) (hl : p ∉ w.ph) (hF : ¬ w.Fz p) (r : Reps G H w xs us) : Q (.ref p) H := by
  unfold mkL at h
  cases m with
  | true =>
    rw [if_pos rfl] at h
    exact h _ _ _ (e.adopt h0) (st.adopt hp hl hF r) ⟨p, rfl, by show (w.ph ++ [p])[S.length]? = _; rw [← st.len]; simp⟩
  | false =>
    rw [if_neg (by simp)] at h
    refine h _ _ _ (e.adoptF h0 hn) (st.like (Like.froze _) rfl (fun a f z => ?_) fun a f => ?_) ⟨p, us, rfl, .inr rfl, .inl hp, Reps.like (Like.froze _) _ _ (Reps.below _ _ r) r⟩
    · rcases f with f | f
      · exact st.ap a f z
      · exact hl (f ▸ z)
    · rcases f with f | f
      · exact st.fz a f
      · rw [f, hp]; simp
end
end Lt
namespace Lt
open PySem L2 PySem.Spec PyProof.Rows
/-! ### what the texts look like -/
def noStar : Expr → Bool
  | .Starred _ _ => false
  | _ => true
def noSlice : Expr → Bool
  | .Slice _ _ _ _ => false
  | _ => true
def noSet : Expr → Bool
  | .Set _ _ _ => false
  | _ => true
def plainT : Expr → Bool
  | .BoolOp _ _ _ => false
  | .UnaryOp .Not _ _ => false
  | .Compare _ _ _ _ => false
  | .IfExp _ _ _ _ => false
  | .NamedExpr _ _ _ => false
  | _ => true
theorem star_of {e : Expr} (h : noStar e = true) (es : List Expr) (env : Env) : starEach (e :: es) env = (false, eval e env) :: starEach es env := by
  cases e <;> first | rfl | exact absurd h (by simp [noStar])
theorem stars_of : ∀ {es : List Expr} (h : (es.all noStar) = true) (pos : Pos) (env : Env), ((backTo pos (starEach es env)).any fun x => x.1) = false
  | [], _, _, _ => rfl
  | e :: es, h, pos, env => by
    simp only [List.all_cons, Bool.and_eq_true] at h
    rw [star_of h.1]
    have ih := stars_of h.2 pos env
    unfold backTo at ih ⊢
    simpa using ih
theorem slice_of {b : Expr} (h : noSlice b = true) : PlainIx b := by
  intro o i
  cases b <;> first | rfl | exact absurd h (by simp [noSlice])
theorem marks_of {b : Expr} (h : noSet b = true) (op : CmpOp) : behindInMarks op b = false := by
  cases b <;> first | rfl | exact absurd h (by simp [noSet])
theorem istrue_of {e : Expr} (h : plainT e = true) (env : Env) (whole : Sem Value) : PySem.isTrue e env whole = (do
      let v ← whole
      standAt e.pos
      holding [v] (truthy v)) := by
  cases e with
  | UnaryOp op a p => cases op <;> first | rfl | exact absurd h (by simp [plainT])
  | _ => first | rfl | exact absurd h (by simp [plainT])
section
variable {G : AMap} {H H1 H2 : Hp} {w w1 w2 : Wd} {W : XK} {S : Sto}
/-- what follows a value: the evaluator's rest g -/
def tK (G : AMap) (W : XK) (g : Slots → D → Sto → R D) (σ : L2.St) (v : V) (H : Hp) (Q : VK) : Prop :=
  ∃ w σD S d, SlR G H w σD σ ∧ StoR G w S H ∧ Rep G H w d v ∧ GoodR G H w W (g σD d S) Q
theorem tEV_bind {f : Slots → Sto → R D} {g : Slots → D → Sto → R D} {σ : L2.St} {Q : VK} (h : tEV G W (fun σ S => (f σ S).bind (g σ)) σ H Q) :
    tEV G W f σ H fun v H1 => tK G W g σ v H1 Q := by
  obtain ⟨w, σD, S, sl, st, q⟩ := h
  exact ⟨w, σD, S, sl, st, GoodR.imp (GoodR.bind q) fun v H2 ⟨w2, d, S2, e, st2, r, q2⟩ => ⟨w2, σD, S2, d, sl.mono e, st2, r, q2⟩⟩
/-- .. with one value kept -/
def tK2 (G : AMap) (W : XK) (g : Slots → D → D → Sto → R D) (σ : L2.St) (x y : V) (H : Hp) (Q : VK) : Prop :=
  ∃ w σD S a b, SlR G H w σD σ ∧ StoR G w S H ∧ Rep G H w a x ∧ Rep G H w b y ∧ GoodR G H w W (g σD a b S) Q
theorem tK_bind {f : Slots → D → Sto → R D} {f' : Slots → Sto → R D} {g : Slots → D → D → Sto → R D} {σ : L2.St} {x : V} {Q : VK}
    (hf : ∀ σ d S, f σ d S = f' σ S) (h : tK G W (fun σ d S => (f σ d S).bind (g σ d)) σ x H Q) :
    tEV G W f' σ H fun y H1 => tK2 G W g σ x y H1 Q := by
  obtain ⟨w, σD, S, d, sl, st, r, q⟩ := h
  replace q : GoodR G H w W ((f σD d S).bind (g σD d)) Q := q
  rw [hf] at q
  exact ⟨w, σD, S, sl, st, GoodR.imp (GoodR.bind q) fun v H2 ⟨w2, b, S2, e, st2, rb, q2⟩ => ⟨w2, σD, S2, d, b, sl.mono e, st2, r.mono e, rb, q2⟩⟩
def noExc : R D → Prop
  | .exc _ _ => False
  | _ => True
theorem GoodR.toN {r : R D} {Q : VK} (n : noExc r) (h : GoodR G H w W r Q) : GoodN G H w r Q := by
  cases r with
  | ok d S => exact h
  | exc x S => exact n.elim
  | bad => exact h
end
theorem ne_mkL (m : Bool) (xs : List D) (S : Sto) : noExc (mkL m xs S) := by unfold mkL; split <;> trivial
theorem ne_mkD (m : Bool) (xs : List (D × D)) (S : Sto) : noExc (mkD m xs S) := by unfold mkD; split <;> trivial
theorem ne_add (m : Bool) (S : Sto) (a b : D) : noExc (addD m S a b) := by
  unfold addD
  split
  · trivial
  · split <;> trivial
  · split <;> trivial
  · split
    · split
      · exact ne_mkL _ _ _
      · trivial
    · trivial
theorem ne_mul (m : Bool) (S : Sto) (a b : D) : noExc (mulD m S a b) := by
  unfold mulD
  split
  · split <;> trivial
  · split <;> trivial
  · split <;> trivial
  · split
    · split
      · exact ne_mkL _ _ _
      · trivial
    · trivial
  · trivial
theorem ne_intop (S : Sto) (a b : D) (c : Int → Int → Bool) (f : Int → Int → Int) : noExc (intop S a b c f) := by
  unfold intop
  split
  · split <;> trivial
  · trivial
theorem ne_bin (m : Bool) (S : Sto) (op : BOp) (a b : D) : noExc (binop m S op a b) := by
  cases op with
  | add => exact ne_add m S a b
  | mul => exact ne_mul m S a b
  | _ => exact ne_intop _ _ _ _ _
theorem ne_idxT (S : Sto) (xs : List D) (k : D) : noExc (idxT S xs k) := by
  unfold idxT
  split
  · split <;> trivial
  · trivial
theorem ne_index (S : Sto) (a k : D) : noExc (index S a k) := by
  unfold index
  split
  · exact ne_idxT _ _ _
  · unfold idxS
    split
    · split
      · split <;> trivial
      · trivial
    · trivial
  · unfold idxO
    split
    · exact ne_idxT _ _ _
    · unfold idxD
      split
      · split <;> trivial
      · trivial
    · trivial
theorem ne_slice (S : Sto) (a : D) (i j : Option Int) : noExc (sliceI S a i j) := by
  unfold sliceI
  split
  · trivial
  · split <;> trivial
  · unfold slcO
    split <;> trivial
theorem ne_blt (m : Bool) (S : Sto) (b : Blt) (d : D) : noExc (builtin m S b d) := by
  cases b <;> unfold builtin <;> try trivial
  · show noExc (lenD S d)
    unfold lenD lenO
    split
    · trivial
    · split <;> trivial
    · split <;> trivial
  · show noExc (overB S d allB)
    unfold overB
    split
    · split <;> trivial
    · trivial
  · show noExc (overB S d anyB)
    unfold overB
    split
    · split <;> trivial
    · trivial
  · show noExc (sortedD m S d)
    unfold sortedD
    split
    · split
      · exact ne_mkL _ _ _
      · trivial
    · split
      · exact ne_mkL _ _ _
      · trivial
    · trivial
  · show noExc (match lstOf S d with
      | some xs => if sortable xs then mkL m (sortD (dedup xs)) S else .bad
      | none => .bad)
    split
    · split
      · exact ne_mkL _ _ _
      · trivial
    · trivial
  · show noExc (listD m S d)
    unfold listD
    split
    · exact ne_mkL _ _ _
    · unfold listO
      split
      · exact ne_mkL _ _ _
      · split
        · exact ne_mkL _ _ _
        · trivial
      · trivial
  · show noExc (match dctOf S d with
      | some kvs => mkD m kvs S
      | none => .bad)
    split
    · exact ne_mkD _ _ _
    · trivial
  · show noExc (match lstOf S d with
      | some xs => .ok (.tup xs) S
      | none => .bad)
    split <;> trivial
  · show noExc (overI S d maxL)
    unfold overI
    split
    · split
      · split <;> trivial
      · trivial
    · trivial
  · show noExc (overI S d fun is => some is.sum)
    unfold overI
    split
    · split
      · split <;> trivial
      · trivial
    · trivial
  · show noExc (match d with
      | .int n => if -4096 ≤ n ∧ n ≤ 4096 then .ok (.vl (rangeD n.toNat)) S else .bad
      | _ => .bad)
    split
    · split <;> trivial
    · trivial
  · show noExc (match d with
      | .int n => if -4096 ≤ n ∧ n ≤ 4096 then .ok (.vl (rangeD n.toNat).reverse) S else .bad
      | _ => .bad)
    split
    · split <;> trivial
    · trivial
  · show noExc (match lstOf S d with
      | some xs => .ok (.vl xs.reverse) S
      | none => .bad)
    split <;> trivial
section
variable {G : AMap} {H H1 H2 : Hp} {w w1 w2 : Wd} {W : XK} {S : Sto} {X : Cx}
variable {a b c : Expr} {pos p p2 : Pos}
abbrev fE := Slots → Sto → R D
/-! ### expressions -/
theorem sd_var {i : Nat} {x : Str} (hN : X.N[i]? = some x) (hv : Vis X.env.scope x) (h1 : (x == Str.ofString "__debug__") = false) (h2 : (x == Str.ofString "__classdict__") = false) :
    PE X (.Name x pos) (tEV G W fun σ S => match σ[i]? with
      | some (some d) => .ok d S
      | _ => .bad) := by
  refine pe_imp (pe_var hN hv h1 h2) fun σ H Q ⟨w, σD, S, sl, st, q⟩ => ?_
  dsimp only at q
  split at q
  · rename_i d e
    obtain ⟨v, e1, r⟩ := sl.at_ i d e
    exact ⟨v, e1, GoodV.here q st r⟩
  · exact q.elim
theorem sd_val {e : Expr} {v : V} {d : D} (h : PE X e (tC v)) (r : ∀ H w S, StoR G w S H → Rep G H w d v) : PE X e (tEV G W fun _ S => .ok d S) :=
  pe_imp h fun σ H Q ⟨w, σD, S, sl, st, q⟩ => GoodV.here q st (r H w S st)
theorem sd_op {f g : fE} {h : Sto → D → D → R D} {op : Operator} (ho : OpR X (binaryOp op) (rD2 G h)) (hn : ∀ S x y, noExc (h S x y)) (ha : PE X a (tEV G W f)) (hb : PE X b (tEV G W g)) :
    PE X (.BinOp a op b pos) (tEV G W fun σ S => (f σ S).bind fun x S1 => (g σ S1).bind fun y S2 => h S2 x y) := by
  refine pe_imp (pe_op ho ha hb) fun σ H Q q => ?_
  have q1 := tEV_bind (f := f) (g := fun σ x S1 => (g σ S1).bind fun y S2 => h S2 x y) q
  obtain ⟨w, σD, S, sl, st, q1⟩ := q1
  refine ⟨w, σD, S, sl, st, GoodR.imp q1 fun x H1 q2 => ?_⟩
  obtain ⟨w, σD, S, sl, st, q3⟩ := tK_bind (f := fun σ _ S => g σ S) (f' := g) (g := fun _ x y S2 => h S2 x y) (fun _ _ _ => rfl) q2
  refine ⟨w, σD, S, sl, st, GoodR.imp q3 fun y H2 ⟨w, σD, S, da, db, sl, st, ra, rb, q⟩ => ?_⟩
  exact ⟨w, S, da, db, st, ra, rb, GoodR.toN (hn _ _ _) q⟩
theorem sd_cmp {f g : fE} {h : Sto → D → D → Option Bool} {op : CmpOp} (ho : OpR X (compareOp op) (rC2 G h)) (ha : PE X a (tEV G W f)) (hb : PE X b (tEV G W g)) (hm : behindInMarks op b = false) :
    PE X (.Compare a [op] [b] pos) (tEV G W fun σ S => (f σ S).bind fun x S1 => (g σ S1).bind fun y S2 => match h S2 x y with
      | some k => .ok (.bl k) S2
      | none => .bad) := by
  refine pe_imp (pe_cmpR ho ha hb hm) fun σ H Q q => ?_
  obtain ⟨w, σD, S, sl, st, q1⟩ := tEV_bind (f := f) (g := fun σ x S1 => (g σ S1).bind fun y S2 => match h S2 x y with
      | some k => .ok (.bl k) S2
      | none => .bad) q
  refine ⟨w, σD, S, sl, st, GoodR.imp q1 fun x H1 q2 => ?_⟩
  obtain ⟨w, σD, S, sl, st, q3⟩ := tK_bind (f := fun σ _ S => g σ S) (f' := g) (g := fun _ x y S2 => match h S2 x y with
      | some k => .ok (.bl k) S2
      | none => .bad) (fun _ _ _ => rfl) q2
  refine ⟨w, σD, S, sl, st, GoodR.imp q3 fun y H2 ⟨w, σD, S, da, db, sl, st, ra, rb, q⟩ => ?_⟩
  dsimp only at q
  split at q
  · rename_i k e
    exact ⟨w, S, da, db, k, st, ra, rb, e, GoodV.here q st rfl⟩
  · exact q.elim
theorem sd_chain {f g j : fE} {h h' : Sto → D → D → Option Bool} {op op' : CmpOp} (ho : OpR X (compareOp op) (rC2 G h)) (ho' : OpR X (compareOp op') (rC2 G h')) (ha : PE X a (tEV G W f)) (hb : PE X b (tEV G W g)) (hc : PE X c (tEV G W j)) (hm : lastMarks [op, op'] [b, c] = false) :
    PE X (.Compare a [op, op'] [b, c] pos) (tEV G W fun σ S => (f σ S).bind fun x S1 => (g σ S1).bind fun y S2 => match h S2 x y with
      | some true => (j σ S2).bind fun z S3 => (match h' S3 y z with
        | some k => .ok (.bl k) S3
        | none => .bad)
      | some false => .ok (.bl false) S2
      | none => .bad) := by
  refine pe_imp (pe_chain ho ho' ha hb hc hm) fun σ H Q q => ?_
  obtain ⟨w, σD, S, sl, st, q1⟩ := tEV_bind (f := f) q
  refine ⟨w, σD, S, sl, st, GoodR.imp q1 fun x H1 q2 => ?_⟩
  obtain ⟨w, σD, S, da, sl, st, ra, q3⟩ := q2
  refine ⟨w, σD, S, sl, st, GoodR.imp (GoodR.bind q3) fun y H2 ⟨w2, db, S2, ex, st2, rb, q4⟩ => ?_⟩
  split at q4
  · rename_i e
    refine ⟨w2, S2, da, db, true, st2, ra.mono ex, rb, e, true, rfl, ?_⟩
    rw [if_pos rfl]
    refine ⟨w2, σD, S2, sl.mono ex, st2, GoodR.imp (GoodR.bind q4) fun z H3 ⟨w3, dz, S3, ex3, st3, rz, q5⟩ => ?_⟩
    split at q5
    · rename_i k e2
      exact ⟨w3, S3, db, dz, k, st3, rb.mono ex3, rz, e2, GoodV.here q5 st3 rfl⟩
    · exact q5.elim
  · rename_i e
    refine ⟨w2, S2, da, db, false, st2, ra.mono ex, rb, e, false, rfl, ?_⟩
    rw [if_neg (by simp)]
    exact GoodV.here q4 st2 rfl
  · exact q4.elim
theorem sd_neg {f : fE} (ha : PE X a (tEV G W f)) : PE X (.UnaryOp .USub a pos) (tEV G W fun σ S => (f σ S).bind fun x S1 => match x with
    | .int i => .ok (.int (-i)) S1
    | _ => .bad) := by
  refine pe_imp (pe_un un_neg ha) fun σ H Q q => ?_
  obtain ⟨w, σD, S, sl, st, q1⟩ := tEV_bind (f := f) q
  refine ⟨w, σD, S, sl, st, GoodR.imp q1 fun x H1 ⟨w, σD, S, d, sl, st, r, q⟩ => ?_⟩
  dsimp only at q
  split at q
  · cases r
    exact ⟨_, rfl, GoodV.here q st rfl⟩
  · exact q.elim
theorem sd_not {f : fE} (ha : PE X a (tEV G W f)) : PE X (.UnaryOp .Not a pos) (tEV G W fun σ S => (f σ S).bind fun x S1 => match x with
    | .bl b => .ok (.bl (!b)) S1
    | _ => .bad) := by
  refine pe_imp (pe_not ha) fun σ H Q q => ?_
  obtain ⟨w, σD, S, sl, st, q1⟩ := tEV_bind (f := f) q
  refine ⟨w, σD, S, sl, st, GoodR.imp q1 fun x H1 ⟨w, σD, S, d, sl, st, r, q⟩ => ?_⟩
  dsimp only at q
  split at q
  · cases r
    exact ⟨_, rfl, GoodV.here q st rfl⟩
  · exact q.elim
theorem sd_and {f g : fE} {rest : List Expr} (ha : PE X a (tEV G W f)) (hb : PE X (.BoolOp .And (b :: rest) pos) (tEV G W g)) :
    PE X (.BoolOp .And (a :: b :: rest) pos) (tEV G W fun σ S => (f σ S).bind fun x S1 => match x with
    | .bl true => g σ S1
    | .bl false => .ok (.bl false) S1
    | _ => .bad) := by
  refine pe_imp (pe_and ha hb) fun σ H Q q => ?_
  obtain ⟨w, σD, S, sl, st, q1⟩ := tEV_bind (f := f) q
  refine ⟨w, σD, S, sl, st, GoodR.imp q1 fun x H1 ⟨w, σD, S, d, sl, st, r, q⟩ => ?_⟩
  dsimp only at q
  split at q
  · cases r
    exact ⟨true, rfl, by rw [if_pos rfl]; exact ⟨w, σD, S, sl, st, q⟩⟩
  · cases r
    exact ⟨false, rfl, by rw [if_neg (by simp)]; exact GoodV.here q st rfl⟩
  · exact q.elim
theorem sd_or {f g : fE} {rest : List Expr} (ha : PE X a (tEV G W f)) (hb : PE X (.BoolOp .Or (b :: rest) pos) (tEV G W g)) :
    PE X (.BoolOp .Or (a :: b :: rest) pos) (tEV G W fun σ S => (f σ S).bind fun x S1 => match x with
    | .bl true => .ok (.bl true) S1
    | .bl false => g σ S1
    | _ => .bad) := by
  refine pe_imp (pe_or ha hb) fun σ H Q q => ?_
  obtain ⟨w, σD, S, sl, st, q1⟩ := tEV_bind (f := f) q
  refine ⟨w, σD, S, sl, st, GoodR.imp q1 fun x H1 ⟨w, σD, S, d, sl, st, r, q⟩ => ?_⟩
  dsimp only at q
  split at q
  · cases r
    exact ⟨true, rfl, by rw [if_pos rfl]; exact GoodV.here q st rfl⟩
  · cases r
    exact ⟨false, rfl, by rw [if_neg (by simp)]; exact ⟨w, σD, S, sl, st, q⟩⟩
  · exact q.elim
/-! ### tests -/
theorem GoodB.imp {r : R D} {Q Q' : Bool → Hp → Prop} (h : GoodB G H w W r Q) (k : ∀ b H, Q b H → Q' b H) : GoodB G H w W r Q' := by
  unfold GoodB at h ⊢
  split
  · exact fun w2 H2 e st => k _ _ (h w2 H2 e st)
  · exact h
  · rename_i h1 h2
    split at h
    · exact h1 _ _ rfl
    · exact h2 _ _ rfl
    · exact h
theorem GoodB.mono (e : Ext H w H1 w1) {r : R D} {Q : Bool → Hp → Prop} (h : GoodB G H w W r Q) : GoodB G H1 w1 W r Q := by
  unfold GoodB at h ⊢
  split
  · exact fun w2 H2 e2 st => h w2 H2 (e.trans e2) st
  · exact GoodX.mono e h
  · rename_i h1 h2
    split at h
    · exact h1 _ _ rfl
    · exact h2 _ _ rfl
    · exact h
/-- a test's answer is a bool -/
theorem GoodB.toR {r : R D} {Q : Bool → Hp → Prop} (h : GoodB G H w W r Q) : GoodR G H w W r fun v H2 => ∃ b, v = .bl b ∧ Q b H2 := by
  cases r with
  | ok d S =>
    cases d with
    | bl b =>
      intro w2 v H2 e st rp
      have rp : v = .bl b := rp
      exact ⟨b, rp, h w2 H2 e st⟩
    | _ => exact h.elim
  | exc x S => exact h
  | bad => exact h.elim
theorem GoodB.bind {r : R D} {f : D → Sto → R D} {Q : Bool → Hp → Prop} (h : GoodB G H w W (r.bind f) Q) :
    GoodR G H w W r (fun v H2 => ∃ w2 d S2, Ext H w H2 w2 ∧ StoR G w2 S2 H2 ∧ Rep G H2 w2 d v ∧ GoodB G H2 w2 W (f d S2) Q) := by
  cases r with
  | ok d S => exact fun w2 v H2 e st rp => ⟨w2, d, S, e, st, rp, GoodB.mono e h⟩
  | exc x S => exact h
  | bad => exact h.elim
/-- .. where the first part is a test -/
theorem GoodB.bindB {r : R D} {f : D → Sto → R D} {Q : Bool → Hp → Prop} (hf : ∀ d S, (∀ b, d ≠ .bl b) → f d S = .bad) (h : GoodB G H w W (r.bind f) Q) :
    GoodB G H w W r (fun b H2 => ∃ w2 S2, Ext H w H2 w2 ∧ StoR G w2 S2 H2 ∧ GoodB G H2 w2 W (f (.bl b) S2) Q) := by
  cases r with
  | ok d S =>
    cases d with
    | bl b => exact fun w2 H2 e st => ⟨w2, S, e, st, GoodB.mono e h⟩
    | _ =>
      have h : GoodB G H w W (f _ S) Q := h
      rw [hf _ _ (by intro b z; cases z)] at h
      exact h.elim
  | exc x S => exact h
  | bad => exact h.elim
/-- any expression that is asked plainly, as a test -/
theorem pt_of {f : fE} {e : Expr} (hp : plainT e = true) (h : PE X e (tEV G W f)) : PT X e (tEVT G W f) :=
  pt_imp (pt_val h (istrue_of hp X.env)) fun σ H Q ⟨w, σD, S, sl, st, q⟩ => ⟨w, σD, S, sl, st, GoodR.imp q.toR fun v H2 ⟨b, e, q⟩ => ⟨b, e, q⟩⟩
theorem st_not {f : fE} (ha : PT X a (tEVT G W f)) : PT X (.UnaryOp .Not a pos) (tEVT G W fun σ S => (f σ S).bind fun x S1 => match x with
    | .bl b => .ok (.bl (!b)) S1
    | _ => .bad) := by
  refine pt_imp (pt_not ha) fun σ H Q ⟨w, σD, S, sl, st, q⟩ => ?_
  refine ⟨w, σD, S, sl, st, GoodB.imp (GoodB.bindB (fun d S h => ?_) q) fun b H2 ⟨w2, S2, e, st2, q2⟩ => q2 w2 H2 (Ext.refl _ _) st2⟩
  cases d with
  | bl b => exact absurd rfl (h b)
  | _ => rfl
theorem sw_and {f g : fE} {rest : List Expr} (ha : PT X a (tEVT G W f)) (hb : PW X (.BoolOp .And (b :: rest) pos) (tEVT G W g)) :
    PW X (.BoolOp .And (a :: b :: rest) pos) (tEVT G W fun σ S => (f σ S).bind fun x S1 => match x with
    | .bl true => g σ S1
    | .bl false => .ok (.bl false) S1
    | _ => .bad) := by
  refine pw_imp (pw_and ha hb) fun σ H Q ⟨w, σD, S, sl, st, q⟩ => ?_
  refine ⟨w, σD, S, sl, st, GoodB.imp (GoodB.bindB (fun d S h => ?_) q) fun b H2 ⟨w2, S2, e, st2, q2⟩ => ?_⟩
  · cases d with
    | bl b => exact absurd rfl (h b)
    | _ => rfl
  · cases b with
    | true => rw [if_pos rfl]; exact ⟨w2, σD, S2, sl.mono e, st2, q2⟩
    | false => rw [if_neg (by simp)]; exact q2 w2 H2 (Ext.refl _ _) st2
theorem sw_or {f g : fE} {rest : List Expr} (ha : PT X a (tEVT G W f)) (hb : PW X (.BoolOp .Or (b :: rest) pos) (tEVT G W g)) :
    PW X (.BoolOp .Or (a :: b :: rest) pos) (tEVT G W fun σ S => (f σ S).bind fun x S1 => match x with
    | .bl true => .ok (.bl true) S1
    | .bl false => g σ S1
    | _ => .bad) := by
  refine pw_imp (pw_or ha hb) fun σ H Q ⟨w, σD, S, sl, st, q⟩ => ?_
  refine ⟨w, σD, S, sl, st, GoodB.imp (GoodB.bindB (fun d S h => ?_) q) fun b H2 ⟨w2, S2, e, st2, q2⟩ => ?_⟩
  · cases d with
    | bl b => exact absurd rfl (h b)
    | _ => rfl
  · cases b with
    | true => rw [if_pos rfl]; exact q2 w2 H2 (Ext.refl _ _) st2
    | false => rw [if_neg (by simp)]; exact ⟨w2, σD, S2, sl.mono e, st2, q2⟩
theorem st_cmp {f g : fE} {h : Sto → D → D → Option Bool} {op : CmpOp} (ho : OpR X (compareOp op) (rC2 G h)) (ha : PE X a (tEV G W f)) (hb : PE X b (tEV G W g)) (hm : behindInMarks op b = false) :
    PT X (.Compare a [op] [b] pos) (tEVT G W fun σ S => (f σ S).bind fun x S1 => (g σ S1).bind fun y S2 => match h S2 x y with
      | some k => .ok (.bl k) S2
      | none => .bad) := by
  refine pt_imp (pt_cmpR ho ha hb hm) fun σ H Q ⟨w, σD, S, sl, st, q⟩ => ?_
  refine ⟨w, σD, S, sl, st, GoodR.imp (GoodB.bind q) fun x H1 ⟨w1, da, S1, e1, st1, ra, q2⟩ => ?_⟩
  refine ⟨w1, σD, S1, sl.mono e1, st1, GoodR.imp (GoodB.bind q2) fun y H2 ⟨w2, db, S2, e2, st2, rb, q⟩ => ?_⟩
  split at q
  · rename_i k e
    exact ⟨w2, S2, da, db, k, st2, ra.mono e2, rb, e, k, rfl, q w2 H2 (Ext.refl _ _) st2⟩
  · exact q.elim
theorem st_chain {f g j : fE} {h h' : Sto → D → D → Option Bool} {op op' : CmpOp} (ho : OpR X (compareOp op) (rC2 G h)) (ho' : OpR X (compareOp op') (rC2 G h')) (ha : PE X a (tEV G W f)) (hb : PE X b (tEV G W g)) (hc : PE X c (tEV G W j)) (hm : lastMarks [op, op'] [b, c] = false) :
    PT X (.Compare a [op, op'] [b, c] pos) (tEVT G W fun σ S => (f σ S).bind fun x S1 => (g σ S1).bind fun y S2 => match h S2 x y with
      | some true => (j σ S2).bind fun z S3 => (match h' S3 y z with
        | some k => .ok (.bl k) S3
        | none => .bad)
      | some false => .ok (.bl false) S2
      | none => .bad) := by
  refine pt_imp (pt_chain ho ho' ha hb hc hm) fun σ H Q ⟨w, σD, S, sl, st, q⟩ => ?_
  refine ⟨w, σD, S, sl, st, GoodR.imp (GoodB.bind q) fun x H1 ⟨w1, da, S1, e1, st1, ra, q2⟩ => ?_⟩
  refine ⟨w1, σD, S1, sl.mono e1, st1, GoodR.imp (GoodB.bind q2) fun y H2 ⟨w2, db, S2, ex, st2, rb, q4⟩ => ?_⟩
  split at q4
  · rename_i e
    refine ⟨w2, S2, da, db, true, st2, ra.mono ex, rb, e, true, rfl, ?_⟩
    rw [if_pos rfl]
    refine ⟨w2, σD, S2, (sl.mono e1).mono ex, st2, GoodR.imp (GoodB.bind q4) fun z H3 ⟨w3, dz, S3, ex3, st3, rz, q5⟩ => ?_⟩
    split at q5
    · rename_i k e2
      exact ⟨w3, S3, db, dz, k, st3, rb.mono ex3, rz, e2, k, rfl, q5 w3 H3 (Ext.refl _ _) st3⟩
    · exact q5.elim
  · rename_i e
    refine ⟨w2, S2, da, db, false, st2, ra.mono ex, rb, e, false, rfl, ?_⟩
    rw [if_neg (by simp)]
    exact ⟨false, rfl, q4 w2 H2 (Ext.refl _ _) st2⟩
  · exact q4.elim
theorem sd_ite {f g h : fE} (hc : PT X c (tEVT G W f)) (ha : PE X a (tEV G W g)) (hb : PE X b (tEV G W h)) :
    PE X (.IfExp c a b pos) (tEV G W fun σ S => (f σ S).bind fun x S1 => match x with
    | .bl true => g σ S1
    | .bl false => h σ S1
    | _ => .bad) := by
  refine pe_imp (pe_ifExp hc ha hb) fun σ H Q ⟨w, σD, S, sl, st, q⟩ => ?_
  refine ⟨w, σD, S, sl, st, ?_⟩
  cases e : f σD S with
  | ok d S1 =>
    simp only [e, R.bind] at q
    cases d with
    | bl b =>
      intro w2 H2 ex st2
      cases b with
      | true => rw [if_pos rfl]; exact ⟨w2, σD, S1, sl.mono ex, st2, GoodR.mono ex q⟩
      | false => rw [if_neg (by simp)]; exact ⟨w2, σD, S1, sl.mono ex, st2, GoodR.mono ex q⟩
    | _ => exact q.elim
  | exc x S1 => simp only [e, R.bind] at q; exact q
  | bad => simp only [e, R.bind] at q; exact q.elim
/-! ### subscripts, slices, displays, built-in functions -/
theorem sd_idx {f g : fE} (hu : X.A.units + 20 < cLine) (ha : PE X a (tEV G W f)) (hb : PE X b (tEV G W g)) (hs : noSlice b = true) :
    PE X (.Subscript a b pos) (tEV G W fun σ S => (f σ S).bind fun x S1 => (g σ S1).bind fun y S2 => index S2 x y) := by
  refine pe_imp (pe_ix (index_ok (G := G) hu) ha hb (slice_of hs)) fun σ H Q q => ?_
  obtain ⟨w, σD, S, sl, st, q1⟩ := tEV_bind (f := f) (g := fun σ x S1 => (g σ S1).bind fun y S2 => index S2 x y) q
  refine ⟨w, σD, S, sl, st, GoodR.imp q1 fun x H1 q2 => ?_⟩
  obtain ⟨w, σD, S, sl, st, q3⟩ := tK_bind (f := fun σ _ S => g σ S) (f' := g) (g := fun _ x y S2 => index S2 x y) (fun _ _ _ => rfl) q2
  refine ⟨w, σD, S, sl, st, GoodR.imp q3 fun y H2 ⟨w, σD, S, da, db, sl, st, ra, rb, q⟩ => ?_⟩
  exact ⟨w, S, da, db, st, ra, rb, GoodR.toN (ne_index _ _ _) q⟩
theorem sd_tup {es : List Expr} {x1 : Nat} {f : Slots → Sto → R (List D)} (hl : ∀ σ S ds S', f σ S = .ok ds S' → ds.length ≤ 4096) (h : PA X es (tEVs G W f)) :
    PE X (.Tuple es x1 pos) (tEV G W fun σ S => (f σ S).bind fun ds S1 => .ok (.tup ds) S1) := by
  refine pe_imp (pe_tup h) fun σ H Q ⟨w, σD, S, sl, st, q⟩ => ⟨w, σD, S, sl, st, ?_⟩
  cases e : f σD S with
  | ok ds S1 =>
    simp only [e, R.bind] at q
    intro w2 vs H2 ex st2 rs
    refine ⟨by rw [Reps.length rs]; exact Nat.le_trans (hl _ _ _ _ e) (by rw [sizeLine_eq]; decide), fun p hp => ?_⟩
    exact q _ _ _ (ex.trans (Ext.upd st2 hp)) (st2.upd hp) (upd_tup st2 hp rs)
  | exc x S1 => simp only [e, R.bind] at q; exact q
  | bad => simp only [e, R.bind] at q; exact q.elim
theorem sd_lst {es : List Expr} {m : Bool} {f : Slots → Sto → R (List D)} (hl : ∀ σ S ds S', f σ S = .ok ds S' → ds.length ≤ 4096) (h : PA X es (tEVs G W f)) :
    PE X (.List es pos) (tEV G W fun σ S => (f σ S).bind fun ds S1 => mkL m ds S1) := by
  refine pe_imp (pe_lst h) fun σ H Q ⟨w, σD, S, sl, st, q⟩ => ⟨w, σD, S, sl, st, ?_⟩
  cases e : f σD S with
  | ok ds S1 =>
    simp only [e, R.bind] at q
    intro w2 vs H2 ex st2 rs
    refine ⟨by rw [Reps.length rs]; exact Nat.le_trans (hl _ _ _ _ e) (by rw [sizeLine_eq]; decide), fun p hp => ?_⟩
    exact GoodR.newLst (GoodR.mono ex q) st2 rs hp
  | exc x S1 => simp only [e, R.bind] at q; exact q
  | bad => simp only [e, R.bind] at q; exact q.elim
theorem sa_nil : PA X [] (tEVs G W fun _ S => .ok [] S) := pa_imp pa_nil fun σ H Q ⟨w, σD, S, sl, st, q⟩ => q w [] H (Ext.refl _ _) st rfl
theorem sa_cons {e : Expr} {es : List Expr} {f : fE} {g : Slots → Sto → R (List D)} (hs : noStar e = true) (he : PE X e (tEV G W f)) (h : PA X es (tEVs G W g)) :
    PA X (e :: es) (tEVs G W fun σ S => (f σ S).bind fun d S1 => (g σ S1).bind fun ds S2 => .ok (d :: ds) S2) := by
  refine pa_imp (pa_cons he h (star_of hs es X.env)) fun σ H Q ⟨w, σD, S, sl, st, q⟩ => ⟨w, σD, S, sl, st, ?_⟩
  cases e1 : f σD S with
  | ok d S1 =>
    simp only [e1, R.bind] at q
    intro w2 v H2 ex st2 r
    refine ⟨w2, σD, S1, sl.mono ex, st2, ?_⟩
    cases e2 : g σD S1 with
    | ok ds S2 =>
      simp only [e2, R.bind] at q
      intro w3 vs H3 ex3 st3 rs
      exact q w3 _ H3 (ex.trans ex3) st3 (Reps.cons (r.mono ex3) rs)
    | exc x S2 => simp only [e2, R.bind] at q; exact GoodX.mono ex q
    | bad => simp only [e2, R.bind] at q; exact q.elim
  | exc x S1 => simp only [e1, R.bind] at q; exact q
  | bad => simp only [e1, R.bind] at q; exact q.elim
theorem sd_blt1 {f : fE} {h : Sto → D → R D} {x : Str} {id : String} (ho : CallR X (.builtin id) (rDC G h)) (hn : ∀ S d, noExc (h S d)) (hg : Gl X x) (hm : X.mg x = none) (hv : bootBuiltins x = some (.builtin id)) (h1 : x ≠ Str.ofString "__name__") (h2 : (x == Str.ofString "__debug__") = false) (hs : noStar a = true) (ha : PE X a (tEV G W f)) :
    PE X (.Call (.Name x p) [a] [] pos) (tEV G W fun σ S => (f σ S).bind fun d S1 => h S1 d) := by
  refine pe_imp (pe_callB ho hg hm hv (pa_cons ha pa_nil (star_of hs [] X.env)) h1 h2 (star_of hs [] X.env) rfl) fun σ H Q q => ?_
  obtain ⟨w, σD, S, sl, st, q1⟩ := tEV_bind (f := f) (g := fun _ d S1 => h S1 d) q
  exact ⟨w, σD, S, sl, st, GoodR.imp q1 fun v H1 ⟨w, σD, S, d, sl, st, r, q⟩ => ⟨v, w, S, d, rfl, st, r, GoodR.toN (hn _ _) q⟩⟩
theorem sd_ty1 {f : fE} {h : Sto → D → R D} {x : Str} {T : String} (ho : CallR X (.type T) (rDC G h)) (hn : ∀ S d, noExc (h S d)) (hg : Gl X x) (hm : X.mg x = none) (hv : bootBuiltins x = some (.type T)) (h1 : x ≠ Str.ofString "__name__") (h2 : (x == Str.ofString "__debug__") = false) (hs : noStar a = true) (ha : PE X a (tEV G W f)) :
    PE X (.Call (.Name x p) [a] [] pos) (tEV G W fun σ S => (f σ S).bind fun d S1 => h S1 d) := by
  refine pe_imp (pe_callTy ho hg hm hv (pa_cons ha pa_nil (star_of hs [] X.env)) h1 h2 (star_of hs [] X.env) rfl) fun σ H Q q => ?_
  obtain ⟨w, σD, S, sl, st, q1⟩ := tEV_bind (f := f) (g := fun _ d S1 => h S1 d) q
  exact ⟨w, σD, S, sl, st, GoodR.imp q1 fun v H1 ⟨w, σD, S, d, sl, st, r, q⟩ => ⟨v, w, S, d, rfl, st, r, GoodR.toN (hn _ _) q⟩⟩
theorem sd_rev {f : fE} {k : Nat} {p1 p2 p3 : Pos} (ha : PE X a (tEV G W f)) :
    PE X (.Subscript a (.Slice none none (some (.UnaryOp .USub (.Constant (.int 1) k p1) p2)) p3) pos) (tEV G W fun σ S => (f σ S).bind fun x S1 => match lstOf S1 x with
      | some xs => .ok (.vl xs.reverse) S1
      | none => .bad) := by
  refine pe_imp (pe_revL ha) fun σ H Q q => ?_
  obtain ⟨w, σD, S, sl, st, q1⟩ := tEV_bind (f := f) q
  refine ⟨w, σD, S, sl, st, GoodR.imp q1 fun x H1 ⟨w, σD, S, d, sl, st, r, q⟩ => ?_⟩
  dsimp only at q
  split at q
  · rename_i xs e
    obtain ⟨c, us, rfl, rd, rs⟩ := lst_at st r e
    exact ⟨c, us, rfl, SqL.rd rd, fun p hp => GoodV.froze q st hp ⟨p, _, rfl, .inr rfl, .inl upd_same, Reps.mono (Ext.froze st hp) _ _ (Reps.reverse rs)⟩⟩
  · exact q.elim
/-! ### slices with bounds -/
def GoodO (G : AMap) (H : Hp) (w : Wd) (W : XK) (r : R (List D)) (Q : Option Int → Hp → Prop) : Prop := match r with
  | .ok ds S' => ∃ i, cutO ds = some i ∧ ∀ w2 H2, Ext H w H2 w2 → StoR G w2 S' H2 → Q i H2
  | .exc x S' => GoodX G H w x S' W
  | .bad => False
def tEVO (G : AMap) (W : XK) (f : Slots → Sto → R (List D)) : TO := fun σ H Q => ∃ w σD S, SlR G H w σD σ ∧ StoR G w S H ∧ GoodO G H w W (f σD S) Q
theorem po_imp {e : Option Expr} {t t' : TO} (h : PO X e t) (k : ∀ σ H Q, t' σ H Q → t σ H Q) : PO X e t' := ⟨fun pins s σ H Q I q => h.run pins s σ H Q I (k σ H Q q)⟩
theorem so_none : PO X none (tEVO G W fun _ S => .ok [] S) := po_imp po_none fun σ H Q ⟨w, σD, S, sl, st, i, e2, q⟩ => by
  cases e2
  exact q w H (Ext.refl _ _) st
theorem so_some {f : fE} (ha : PE X a (tEV G W f)) : PO X (some a) (tEVO G W fun σ S => (f σ S).bind fun d S1 => (R.ok [] S1).bind fun ds S2 => .ok (d :: ds) S2) := by
  refine po_imp (po_some ha) fun σ H Q ⟨w, σD, S, sl, st, q⟩ => ⟨w, σD, S, sl, st, ?_⟩
  cases e1 : f σD S with
  | ok d S1 =>
    simp only [e1, R.bind] at q
    obtain ⟨i, e3, q⟩ := q
    intro w2 v H2 ex st2 r
    cases d with
    | int j => cases e3; cases r; exact ⟨j, rfl, q w2 H2 ex st2⟩
    | _ => simp [cutO] at e3
  | exc x S1 => simp only [e1, R.bind] at q; exact q
  | bad => simp only [e1, R.bind] at q; exact q.elim
theorem sd_slc {f : fE} {g h : Slots → Sto → R (List D)} {lo hi : Option Expr} (ha : PE X a (tEV G W f)) (hl : PO X lo (tEVO G W g)) (hh : PO X hi (tEVO G W h)) :
    PE X (.Subscript a (.Slice lo hi none p2) pos) (tEV G W fun σ S => (f σ S).bind fun x S1 => (g σ S1).bind fun l S2 => match cutO l with
      | none => .bad
      | some i => (h σ S2).bind fun u S3 => match cutO u with
        | none => .bad
        | some j => sliceI S3 x i j) := by
  refine pe_imp (pe_slice (slice_ok (G := G)) ha hl hh) fun σ H Q q => ?_
  obtain ⟨w, σD, S, sl, st, q1⟩ := tEV_bind (f := f) q
  refine ⟨w, σD, S, sl, st, GoodR.imp q1 fun x H1 ⟨w, σD, S, d, sl, st, r, q⟩ => ?_⟩
  refine ⟨w, σD, S, sl, st, ?_⟩
  cases e1 : g σD S with
  | bad => simp only [e1, R.bind] at q; exact q.elim
  | exc x S1 => simp only [e1, R.bind] at q; exact q
  | ok l S2 =>
    simp only [e1, R.bind] at q
    split at q
    · exact q.elim
    · rename_i i hi
      refine ⟨i, hi, fun w2 H2 ex st2 => ⟨w2, σD, S2, sl.mono ex, st2, ?_⟩⟩
      cases e2 : h σD S2 with
      | bad => simp only [e2, R.bind] at q; exact q.elim
      | exc x S1 => simp only [e2, R.bind] at q; exact GoodX.mono ex q
      | ok u S3 =>
        simp only [e2, R.bind] at q
        split at q
        · exact q.elim
        · rename_i j hj
          exact ⟨j, hj, fun w3 H3 ex3 st3 => ⟨w3, S3, d, st3, (r.mono ex).mono ex3, GoodR.toN (ne_slice _ _ _ _) (GoodR.mono ex3 (GoodR.mono ex q))⟩⟩
end
end Lt
namespace Lt
open PySem L2 PySem.Spec PyProof.Rows
def tyN : Ity → String
  | .int => "int"
  | .str => "str"
  | .bool => "bool"
  | .tuple => "tuple"
  | .list => "list"
  | .dict => "dict"
section
variable {G : AMap} {H H1 H2 : Hp} {w w1 w2 : Wd} {W : XK} {S : Sto} {X : Cx}
variable {pins : List (Addr × Obj)} {σ : L2.St} {s : Shared}
def rIsD (G : AMap) (t : Ity) : List V → Hp → VK → Prop := fun vs H Q => ∃ x w S a b, vs = [x, .ty (tyN t)] ∧ StoR G w S H ∧ Rep G H w a x ∧ isA S t a = some b ∧ Q (.bl b) H
theorem isi_go (I : Inv X pins σ H s) {u : Value} {T : String} {P : Heap → Prop} (k : PySem.W.KitX X.K u (.type T) P) (hp : P s.heap) {t : Ity} {b : Bool} (kb : kitB T (tyN t) = some b) (hu : u ≠ .builtin "__main__.__loader__#opaque") {Q : VK} (q : Q (.bl b) H) :
    wpAny (model X.prog X.w) X.A (call (.builtin "isinstance") [u, .type (tyN t)]) (EP X pins σ Q) X.xe s :=
  PySem.W.kia_one k I.kIn hp (kit_ty kb) hu fun tk => ⟨.bl b, H, I.tok tk, rfl, q⟩
theorem isi_ok (t : Ity) : CallR X (.builtin "isinstance") (rIsD G t) := by
  intro pins s σ H vs us Q I r ⟨x, w, S, a, b, ev, st, ra, e, q⟩
  subst ev
  obtain ⟨u, c, rfl, ru, rc⟩ := vals2 r
  have hc : c = .type (tyN t) := rc
  subst hc
  unfold isA at e
  split at e
  · cases ra; cases ru; cases e
    exact isi_go I PySem.W.kitx_none trivial (by cases t <;> decide +kernel) (by intro z; cases z) q
  · cases ra; cases ru; cases e
    exact isi_go I PySem.W.kitx_bool trivial (by cases t <;> decide +kernel) (by intro z; cases z) q
  · cases ra; obtain ⟨tk, rfl⟩ := ru; cases e
    exact isi_go I PySem.W.kitx_int trivial (by cases t <;> decide +kernel) (by intro z; cases z) q
  · cases ra; obtain ⟨tk, rfl⟩ := ru; cases e
    exact isi_go I PySem.W.kitx_str trivial (by cases t <;> decide +kernel) (by intro z; cases z) q
  · obtain ⟨p, ws, rfl, rd, _⟩ := (show ∃ a us, x = .ref a ∧ Rd H a (.tup us) ∧ Reps G H w _ us from ra)
    cases ru; cases e
    obtain ⟨o, ho, hc⟩ : ∃ o, s.heap.get? p = some o ∧ o.cls = .type "tuple" := by
      obtain ⟨its, _, _, o, h1, h2, _⟩ := tup_isT I rd
      exact ⟨o, h1, h2⟩
    exact isi_go I PySem.W.kitx_tuple ⟨o, ho, hc⟩ (by cases t <;> decide +kernel) (by intro z; cases z) q
  · cases e
  · split at e
    · rename_i h1
      obtain ⟨p, ws, rfl, rd, _⟩ := lst_at st ra (view_lst h1)
      cases ru; cases e
      obtain ⟨_, its, n, _, _, ho⟩ := lst_obj I rd
      exact isi_go I PySem.W.kitx_list ⟨_, ho, rfl⟩ (by cases t <;> decide +kernel) (by intro z; cases z) q
    · rename_i h1
      obtain ⟨p, rfl, d⟩ := dct_at st ra (view_dct h1)
      cases ru; cases e
      have hk : PySem.W.KitAt p "dict" s.heap := by
        rcases d with ⟨L, rd, _⟩ | ⟨L, rd, _⟩ | ⟨L, rd, _⟩
        · obtain ⟨_, _, xs, _, o, es, ep, ho, ex, _⟩ := dt_rd I.hok rd
          exact ⟨o, ho, ex.1⟩
        · obtain ⟨_, _, xs, _, o, es, ep, ho, ex, _⟩ := dk_rd I.hok rd
          exact ⟨o, ho, ex.1⟩
        · obtain ⟨_, _, o, es, ep, ho, ex, _⟩ := mx_at (P := X.prog) (rd.ok I.hok)
          exact ⟨o, ho, ex.1⟩
      exact isi_go I PySem.W.kitx_dict hk (by cases t <;> decide +kernel) (by intro z; cases z) q
    · cases e
theorem sd_isi {a : Expr} {f : fE} {t : Ity} {x y : Str} {p p2 pos : Pos} (hg : Gl X x) (hm : X.mg x = none) (hv : bootBuiltins x = some (.builtin "isinstance")) (h1 : x ≠ Str.ofString "__name__") (h2 : (x == Str.ofString "__debug__") = false) (hs : noStar a = true) (ha : PE X a (tEV G W f))
    (gy : Gl X y) (my : X.mg y = none) (vy : bootBuiltins y = some (.type (tyN t))) (h3 : y ≠ Str.ofString "__name__") (h4 : (y == Str.ofString "__debug__") = false) :
    PE X (.Call (.Name x p) [a, .Name y p2] [] pos) (tEV G W fun σ S => (f σ S).bind fun x S1 => match isA S1 t x with
      | some b => .ok (.bl b) S1
      | none => .bad) := by
  have hy : PE X (.Name y p2) (tC (.ty (tyN t))) := pe_bltn gy my vy rfl h3 h4
  refine pe_imp (pe_callB (isi_ok (G := G) t) hg hm hv (pa_cons ha (pa_cons hy pa_nil (star_of rfl [] X.env)) (star_of hs [_] X.env)) h1 h2 (star_of hs [_] X.env) (stars_of (by rfl) pos X.env)) fun σ H Q q => ?_
  obtain ⟨w, σD, S, sl, st, q1⟩ := tEV_bind (f := f) q
  refine ⟨w, σD, S, sl, st, GoodR.imp q1 fun v H1 ⟨w, σD, S, d, sl, st, r, q⟩ => ?_⟩
  dsimp only at q
  split at q
  · rename_i b e
    exact ⟨v, w, S, d, b, rfl, st, r, e, GoodV.here q st rfl⟩
  · exact q.elim
/-! ### what is walked -/
/-- J walks xs from here on, as long as d stays -/
def Wlk (G : AMap) (J : It) (k : Bool) (d : D) (xs : List D) (H0 : Hp) (w0 : Wd) : Prop := ∀ (i : Nat) w H S, Ext H0 w0 H w → StoR G w S H → stays k xs S d = true →
  (xs.length ≤ i → J.stop i H) ∧ (∀ x, xs[i]? = some x → J.go i H ∧ ∀ v H', J.yld i H v H' → ∃ w', Ext H w H' w' ∧ StoR G w' S H' ∧ Rep G H' w' x v)
theorem pi_imp {tg e : Expr} {t t' : TI} (h : PI X tg e t) (k : ∀ σ H Q, t' σ H Q → t σ H Q) : PI X tg e t' := ⟨fun pins s σ H Q I q => h.run pins s σ H Q I (k σ H Q q)⟩
theorem pi_or {tg e : Expr} {t t' : TI} (h : PI X tg e t) (h' : PI X tg e t') : PI X tg e (fun σ H Q => t σ H Q ∨ t' σ H Q) := ⟨fun pins s σ H Q I q => q.elim (h.run pins s σ H Q I) (h'.run pins s σ H Q I)⟩
theorem wlk_tup {K : PySem.W.Frag} {xs : List D} {us : List V} {a : Addr} (rd : Rd H a (.tup us)) (rs : Reps G H w xs us) (k : Bool) (d : D) : Wlk G (Itt K a) k d xs H w := by
  intro i w2 H2 S e st _
  have rd2 := e.rdT rd
  have sq : SqT K H2 a us := SqT.rd rd2
  refine ⟨fun h => ⟨us, sq, by rw [Reps.length rs]; exact h⟩, fun x hx => ?_⟩
  obtain ⟨u, hu, ru⟩ := Reps.get (Reps.mono e _ _ rs) hx
  refine ⟨⟨us, u, sq, hu⟩, fun v H' ⟨hH, hv⟩ => ?_⟩
  subst hH
  have := hv us sq
  rw [hu] at this
  cases this
  exact ⟨w2, Ext.refl _ _, st, ru⟩
theorem rd_inj {a : Addr} {u u' : HO} (h : Rd H a u) (h' : Rd H a u') (n : ∀ o x, u ≠ .frz o x) (n' : ∀ o x, u' ≠ .frz o x) : u = u' := by
  rcases h with h | ⟨o, h⟩ <;> rcases h' with h' | ⟨o', h'⟩ <;> rw [h] at h' <;> cases h'
  · rfl
  · exact absurd rfl (n _ _)
  · exact absurd rfl (n' _ _)
  · rfl
theorem wlk_vl {K : PySem.W.Frag} {xs : List D} {us : List V} {a : Addr} (hF : w.Fz a) (rd : Rd H a (.lst us)) (rs : Reps G H w xs us) : Wlk G (Itl K a) false (.vl xs) xs H w := by
  intro i w2 H2 S e st _
  have rd2 := e.rdF (fun _ _ z => by cases z) hF rd
  have sq : SqL K H2 a us := SqL.rd rd2
  refine ⟨fun h => ⟨us, sq, by rw [Reps.length rs]; exact h⟩, fun x hx => ?_⟩
  obtain ⟨u, hu, ru⟩ := Reps.get (Reps.mono e _ _ rs) hx
  refine ⟨⟨us, u, sq, hu⟩, fun v H' ⟨hH, hv⟩ => ?_⟩
  subst hH
  have := hv us sq
  rw [hu] at this
  cases this
  exact ⟨w2, Ext.refl _ _, st, ru⟩
theorem wlk_loc {K : PySem.W.Frag} {xs : List D} {a : Addr} {l : Nat} (hp : w.ph[l]? = some a) (hS : S[l]? = some (.lst xs)) : Wlk G (Itl K a) false (.loc l) xs H w := by
  intro i w2 H2 S2 e st2 sy
  obtain ⟨o, h1, h2⟩ := st2.ob l a (e.ph l a hp)
  simp only [stays, h1] at sy
  cases o with
  | lst ys =>
    have ey : xs = ys := (D.sames_iff _ _).mp (by simpa using sy)
    subst ey
    obtain ⟨us, hu, rs⟩ := h2
    have sq : SqL K H2 a us := SqL.rd (.inl hu)
    refine ⟨fun h => ⟨us, sq, by rw [Reps.length rs]; exact h⟩, fun x hx => ?_⟩
    obtain ⟨u, hu2, ru⟩ := Reps.get rs hx
    refine ⟨⟨us, u, sq, hu2⟩, fun v H' ⟨hH, hv⟩ => ?_⟩
    subst hH
    have := hv us sq
    rw [hu2] at this
    cases this
    exact ⟨w2, Ext.refl _ _, st2, ru⟩
  | _ => cases sy
theorem kDV (k : L2.Key) : Rep G H w (kD k) (kV k) := by
  cases k <;> rfl
theorem kDVs : ∀ ks : List L2.Key, Reps G H w (ks.map kD) (ks.map kV)
  | [] => rfl
  | k :: ks => Reps.cons (kDV k) (kDVs ks)
theorem repK_at : ∀ {kvs : List (D × D)} {L : List (L2.Key × V)}, RepK G H w kvs L → ∀ i : Nat, (kvs.map (·.1))[i]? = (L[i]?).map fun p => kD p.1
  | [], _, h, i => by
    have h : _ = [] := h
    subst h; simp
  | (k, d) :: r, _, ⟨ks, u, L', e1, e2, _, b⟩, i => by
    subst e1 e2
    cases i with
    | zero => simp
    | succ i => simpa using repK_at b i
theorem repT_at : ∀ {kvs : List (D × D)} {L : List (List L2.Key × V)}, RepT G H w kvs L → ∀ i : Nat, (kvs.map (·.1))[i]? = (L[i]?).map fun p => D.tup (p.1.map kD)
  | [], _, h, i => by
    have h : _ = [] := h
    subst h; simp
  | (k, d) :: r, _, ⟨ks, u, L', e1, e2, _, b⟩, i => by
    subst e1 e2
    cases i with
    | zero => simp
    | succ i => simpa using repT_at b i
theorem wlk_dK {a : Addr} {o : Obj} {kvs : List (D × D)} {L : List (L2.Key × V)} (h : H a = some (.frz o (.dK L))) (r : RepK G H w kvs L) (k : Bool) (d : D) : Wlk G (Itk a o L) k d (kvs.map (·.1)) H w := by
  intro i w2 H2 S e st _
  have h2 := e.frz _ _ _ h
  refine ⟨fun hi => ⟨h2, by rw [List.length_map, ← RepK.length r] at hi; exact hi⟩, fun x hx => ?_⟩
  rw [repK_at r] at hx
  obtain ⟨p, hp, e2⟩ := Option.map_eq_some_iff.mp hx
  refine ⟨⟨h2, (List.getElem?_eq_some_iff.mp hp).1⟩, fun v H' ⟨hH, k, u, hk, hv⟩ => ?_⟩
  subst hH
  rw [hp] at hk
  cases hk
  subst hv; subst e2
  exact ⟨w2, Ext.refl _ _, st, kDV _⟩
theorem wlk_dT {a : Addr} {o : Obj} {kvs : List (D × D)} {L : List (List L2.Key × V)} (h : H a = some (.frz o (.dT L))) (r : RepT G H w kvs L) (k : Bool) (d : D) : Wlk G (Itkt a o L) k d (kvs.map (·.1)) H w := by
  intro i w2 H2 S e st _
  have h2 := e.frz _ _ _ h
  refine ⟨fun hi => ⟨h2, by rw [List.length_map, ← RepT.length r] at hi; exact hi⟩, fun x hx => ?_⟩
  rw [repT_at r] at hx
  obtain ⟨p, hp, e2⟩ := Option.map_eq_some_iff.mp hx
  refine ⟨⟨h2, (List.getElem?_eq_some_iff.mp hp).1⟩, fun v H' ⟨hH, k, u, q, hk, hv, hq⟩ => ?_⟩
  subst hH
  rw [hp] at hk
  cases hk
  subst hv; subst e2
  exact ⟨w2, Ext.refl _ _, st, q, _, rfl, .inl hq, kDVs _⟩
theorem mDV {m : MEnt} (h : TupR H m) : Rep G H w (mD m) (mV m) := by
  cases m with
  | inl k => exact kDV k
  | inr p => exact ⟨p.2, _, rfl, h, kDVs p.1⟩
theorem repM_at : ∀ {kvs : List (D × D)} {L : List (MEnt × V)}, RepM G H w kvs L → ∀ i : Nat, (kvs.map (·.1))[i]? = (L[i]?).map fun p => mD p.1
  | [], _, h, i => by
    have h : _ = [] := h
    subst h; simp
  | (k, d) :: r, _, ⟨ks, u, L', e1, e2, _, _, b⟩, i => by
    subst e1 e2
    cases i with
    | zero => simp
    | succ i => simpa using repM_at b i
theorem repM_tup : ∀ {kvs : List (D × D)} {L : List (MEnt × V)}, RepM G H w kvs L → ∀ p ∈ L, TupR H p.1
  | [], L, h, p, hp => by
    have h : L = [] := h
    subst h; cases hp
  | (k, d) :: r, _, ⟨ks, u, L', e1, e2, t, _, b⟩, p, hp => by
    subst e1
    rcases List.mem_cons.mp hp with e | hp
    · subst e; exact t
    · exact repM_tup b p hp
theorem wlk_mx {a : Addr} {o : Obj} {kvs : List (D × D)} {L : List (MEnt × V)} (h : H a = some (.frz o (mxO G.wo a L))) (r : RepM G H w kvs L) (k : Bool) (d : D) : Wlk G (Itm G.wo a o L) k d (kvs.map (·.1)) H w := by
  intro i w2 H2 S e st _
  have h2 := e.frz _ _ _ h
  refine ⟨fun hi => ⟨by rw [List.length_map, ← RepM.length r] at hi; exact hi, h2⟩, fun x hx => ?_⟩
  rw [repM_at r] at hx
  obtain ⟨p, hp, e2⟩ := Option.map_eq_some_iff.mp hx
  refine ⟨⟨(List.getElem?_eq_some_iff.mp hp).1, h2⟩, fun v H' ⟨hH, m, u, hk, hv⟩ => ?_⟩
  subst hH
  rw [hp] at hk
  cases hk
  subst hv; subst e2
  exact ⟨w2, Ext.refl _ _, st, mDV ((repM_tup r _ (List.mem_of_getElem? hp)).mono e)⟩
theorem isDct_lst {d : D} {xs : List D} (h : lstOf S d = some xs) : isDct S d = false := by
  unfold isDct
  rw [h]; rfl
/-- a dict is walked frozen -/
def Froz (H : Hp) (v : V) : Prop := ∃ a o u, v = .ref a ∧ H a = some (.frz o u)
/-- a place that is walked is no dict that may change -/
def notDct (S : Sto) (d : D) : Prop := match d with
  | .loc l => ∀ kvs, S[l]? ≠ some (.dct kvs)
  | _ => True
def GoodI (G : AMap) (H : Hp) (w : Wd) (W : XK) (pu : Bool) (r : R D) (Q : It → Hp → Prop) : Prop := match r with
  | .ok d S' => notDct S' d ∧ ∃ xs, itemsOf false pu S' d = some xs ∧ ∀ w2 H2, Ext H w H2 w2 → StoR G w2 S' H2 → ∀ J, Wlk G J (isDct S' d) d xs H2 w2 → Q J H2
  | .exc x S' => GoodX G H w x S' W
  | .bad => False
def iEV (G : AMap) (W : XK) (pu : Bool) (f : fE) : TI := fun σ H Q => ∃ w σD S, SlR G H w σD σ ∧ StoR G w S H ∧ GoodI G H w W pu (f σD S) Q
theorem wlk_view {d : D} {v : V} {kvs : List (D × D)} (r : Rep G H w d v) (st : StoR G w S H) (hl : dctOf S d = some kvs) (fz : Froz H v) (k : Bool) : ∃ a o, v = .ref a ∧ ((∃ L, H a = some (.frz o (.dK L)) ∧ Wlk G (Itk a o L) k d (kvs.map (·.1)) H w) ∨ (∃ L, H a = some (.frz o (.dT L)) ∧ Wlk G (Itkt a o L) k d (kvs.map (·.1)) H w) ∨ ∃ wo L, H a = some (.frz o (mxO wo a L)) ∧ Wlk G (Itm wo a o L) k d (kvs.map (·.1)) H w) := by
  obtain ⟨a, rfl, dv⟩ := dct_at st r hl
  obtain ⟨b, o, u, e2, hfz⟩ := fz
  cases e2
  refine ⟨a, o, rfl, ?_⟩
  rcases dv with ⟨L, rd, rs⟩ | ⟨L, rd, rs⟩ | ⟨L, rd, mx, rs⟩
  rotate_left 2
  · have e3 : H a = some (.frz o (mxO G.wo a L)) := by
      rcases rd with h | ⟨o', h⟩
      · rw [hfz] at h
        exact absurd (Option.some.inj h).symm (mx_nf _ _ _ _ _)
      · rw [hfz] at h
        cases h
        exact hfz
    exact .inr (.inr ⟨_, L, e3, wlk_mx e3 rs _ _⟩)
  · have e3 : H a = some (.frz o (.dT L)) := by
      rcases rd with h | ⟨o', h⟩ <;> rw [hfz] at h <;> cases h
      exact hfz
    exact .inr (.inl ⟨L, e3, wlk_dT e3 rs _ _⟩)
  · have e3 : H a = some (.frz o (.dK L)) := by
      rcases rd with h | ⟨o', h⟩ <;> rw [hfz] at h <;> cases h
      exact hfz
    exact .inl ⟨L, e3, wlk_dK e3 rs _ _⟩
/-- any expression, walked -/
theorem si_of {e tg : Expr} {f : fE} (pu : Bool) (ha : PE X e (tEV G W f)) : PI X tg e (iEV G W pu f) := by
  refine pi_imp (pi_or (pi_or (pi_tup ha) (pi_str ha)) (pi_or (pi_list ha) (pi_keyX ha))) fun σ H Q ⟨w, σD, S, sl, st, q⟩ => ?_
  cases e1 : f σD S with
  | bad => rw [e1] at q; exact q.elim
  | exc x S1 =>
    rw [e1] at q
    refine .inl (.inl ⟨w, σD, S, sl, st, ?_⟩)
    rw [e1]; exact q
  | ok d S1 =>
    rw [e1] at q
    obtain ⟨nd, xs, hx, q⟩ := q
    unfold itemsOf at hx
    split at hx
    · cases hx
      refine .inl (.inl ⟨w, σD, S, sl, st, ?_⟩)
      rw [e1]
      intro w2 v H2 ex st2 r
      obtain ⟨a, us, rfl, rd, rs⟩ := r
      exact ⟨a, rfl, ⟨us, SqT.rd rd⟩, q w2 H2 ex st2 _ (wlk_tup rd rs _ _)⟩
    · cases hx
      refine .inl (.inr ⟨w, σD, S, sl, st, ?_⟩)
      rw [e1]
      intro w2 v H2 ex st2 r
      cases r
      refine ⟨_, rfl, q w2 H2 ex st2 _ ?_⟩
      intro i w3 H3 S3 _ st3 _
      rename_i x _ _
      refine ⟨fun h => (show x.cps.size ≤ i by simpa using h), fun y hy => ?_⟩
      rw [List.getElem?_map] at hy
      obtain ⟨c, hc, rfl⟩ := Option.map_eq_some_iff.mp hy
      have hi : i < x.cps.size := by simpa using (List.getElem?_eq_some_iff.mp hc).1
      refine ⟨hi, fun v H' ⟨hH, c', hc', hv⟩ => ?_⟩
      subst hH hv
      refine ⟨w3, Ext.refl _ _, st3, ?_⟩
      rw [Array.getElem?_toList, hc'] at hc
      cases hc
      rfl
    · split at hx
      · rename_i ys h1
        cases hx
        have hl := view_lst h1
        refine .inr (.inl ⟨w, σD, S, sl, st, ?_⟩)
        rw [e1]
        intro w2 v H2 ex st2 r
        have q' := q w2 H2 ex st2
        rw [isDct_lst hl] at q'
        cases d with
        | vl zs =>
          cases hl
          obtain ⟨a, us, rfl, hF, rd, rs⟩ := r
          exact ⟨a, rfl, ⟨us, SqL.rd rd⟩, q' _ (wlk_vl hF rd rs)⟩
        | loc l =>
          obtain ⟨a, rfl, hp⟩ := r
          obtain ⟨b, us, e2, rd, rs⟩ := lst_at st2 (show Rep G H2 w2 (.loc l) (.ref a) from ⟨a, rfl, hp⟩) hl
          cases e2
          have hS : S1[l]? = some (.lst xs) := by
            simp only [lstOf] at hl
            split at hl
            · rename_i zs hz; cases hl; exact hz
            · cases hl
          exact ⟨a, rfl, ⟨us, SqL.rd rd⟩, q' _ (wlk_loc hp hS)⟩
        | _ => cases hl
      · rename_i kvs h1
        by_cases hv : (if isVd d = true then false else pu) = true
        · rw [if_pos hv] at hx
          cases hx
          have hl := view_dct h1
          refine .inr (.inr ⟨w, σD, S, sl, st, ?_⟩)
          rw [e1]
          intro w2 v H2 ex st2 r
          have fz : Froz H2 v := by
            cases d with
            | vd zs => simp [isVd] at hv
            | loc l =>
              obtain ⟨b, rfl, hp⟩ := r
              obtain ⟨ob, h2, h3⟩ := st2.ob l b hp
              cases ob with
              | fdct zs =>
                rcases h3 with ⟨L, ⟨o, h3⟩, _⟩ | ⟨L, ⟨o, h3⟩, _⟩ | ⟨L, ⟨o, h3⟩, _⟩
                · exact ⟨b, o, _, rfl, h3⟩
                · exact ⟨b, o, _, rfl, h3⟩
                · exact ⟨b, o, _, rfl, h3⟩
              | dct zs => exact absurd h2 (nd zs)
              | _ => simp [dctOf, h2] at hl
            | _ => cases hl
          obtain ⟨a, o, rfl, h⟩ := wlk_view r st2 hl fz (isDct S1 d)
          exact ⟨a, o, rfl, h.elim (fun ⟨L, e3, wk⟩ => .inl ⟨L, e3, q w2 H2 ex st2 _ wk⟩) fun h => .inr (h.elim (fun ⟨L, e3, wk⟩ => .inl ⟨L, e3, q w2 H2 ex st2 _ wk⟩) fun ⟨wo, L, e3, wk⟩ => .inr ⟨wo, L, e3, q w2 H2 ex st2 _ wk⟩)⟩
        · rw [if_neg hv] at hx
          cases hx
      · cases hx
/-- a name's dict, walked -/
def iVar (G : AMap) (i : Nat) : TI := fun σ H Q => ∃ w σD S d v kvs, SlR G H w σD σ ∧ StoR G w S H ∧ σD[i]? = some (some d) ∧ σ[i]? = some (some v) ∧ Rep G H w d v ∧ dctOf S d = some kvs ∧ Froz H v ∧ ∀ J, Wlk G J (isDct S d) d (kvs.map (·.1)) H w → Q J H
theorem si_var {tg : Expr} {i : Nat} {x : Str} {pos : Pos} (hN : X.N[i]? = some x) (hv : Vis X.env.scope x) (h1 : (x == Str.ofString "__debug__") = false) (h2 : (x == Str.ofString "__classdict__") = false) : PI X tg (.Name x pos) (iVar G i) := by
  refine pi_imp (pi_keyX (pe_var hN hv h1 h2)) fun σ H Q ⟨w, σD, S, d, v, kvs, sl, st, hd, hv, r, hl, fz, q⟩ => ⟨v, hv, ?_⟩
  obtain ⟨a, o, rfl, h⟩ := wlk_view r st hl fz (isDct S d)
  exact ⟨a, o, rfl, h.elim (fun ⟨L, e3, wk⟩ => .inl ⟨L, e3, q _ wk⟩) fun h => .inr (h.elim (fun ⟨L, e3, wk⟩ => .inl ⟨L, e3, q _ wk⟩) fun ⟨wo, L, e3, wk⟩ => .inr ⟨wo, L, e3, q _ wk⟩)⟩
/-! ### ranges -/
theorem range_at (n : Nat) (i : Nat) : (rangeD n)[i]? = if i < n then some (.int (i : Int)) else none := by
  unfold rangeD
  rw [List.getElem?_map]
  by_cases h : i < n
  · rw [if_pos h, List.getElem?_range h]; rfl
  · rw [if_neg h, List.getElem?_eq_none (by rw [List.length_range]; omega)]; rfl
theorem range_len (n : Nat) : (rangeD n).length = n := by unfold rangeD; simp
theorem si_range {tg a : Expr} {f : fE} {p pos : Pos} (m pu : Bool) (hg : Gl X (Str.ofString "range")) (hm : X.mg (Str.ofString "range") = none) (hs : noStar a = true) (ha : PE X a (tEV G W f)) :
    PI X tg (.Call (.Name (Str.ofString "range") p) [a] [] pos) (iEV G W pu fun σ S => (f σ S).bind fun d S1 => builtin m S1 .range d) := by
  refine pi_imp (pi_range1 hg hm (pa_cons ha pa_nil (star_of hs [] X.env)) (star_of hs [] X.env)) fun σ H Q ⟨w, σD, S, sl, st, q⟩ => ⟨w, σD, S, sl, st, ?_⟩
  cases e1 : f σD S with
  | bad => simp only [e1, R.bind] at q; exact q.elim
  | exc x S1 => simp only [e1, R.bind] at q; exact q
  | ok d S1 =>
    simp only [e1, R.bind] at q
    intro w2 v H2 ex st2 r
    show ∃ j, _
    cases d with
    | int n =>
      simp only [builtin] at q
      split at q
      · rename_i hn
        obtain ⟨_, xs, hx, q⟩ := q
        cases hx
        cases r
        refine ⟨n, rfl, by omega, by omega, q w2 H2 ex st2 _ ?_⟩
        intro i w3 H3 S3 _ st3 _
        rw [range_len]
        refine ⟨fun h => h, fun x hx => ?_⟩
        rw [range_at] at hx
        split at hx
        · rename_i hi
          cases hx
          refine ⟨hi, fun v H' ⟨hH, hv⟩ => ?_⟩
          subst hH hv
          exact ⟨w3, Ext.refl _ _, st3, by rw [Int.zero_add]; rfl⟩
        · cases hx
      · exact q.elim
    | _ => exact q.elim
theorem si_rrange {tg a : Expr} {f : fE} {p p2 pos pos2 : Pos} (m pu : Bool) (hg : Gl X (Str.ofString "range")) (hm : X.mg (Str.ofString "range") = none) (hg2 : Gl X (Str.ofString "reversed")) (hm2 : X.mg (Str.ofString "reversed") = none) (hs : noStar a = true) (ha : PE X a (tEV G W f)) :
    PI X tg (.Call (.Name (Str.ofString "reversed") p) [.Call (.Name (Str.ofString "range") p2) [a] [] pos2] [] pos) (iEV G W pu fun σ S => (f σ S).bind fun d S1 => builtin m S1 .rrange d) := by
  refine pi_imp (pi_revR hg2 hm2 (prg_1 hg hm ha (star_of hs [] X.env)) rfl) fun σ H Q ⟨w, σD, S, sl, st, q⟩ => ?_
  refine ⟨w, σD, S, sl, st, ?_⟩
  cases e1 : f σD S with
  | bad => simp only [e1, R.bind] at q; exact q.elim
  | exc x S1 => simp only [e1, R.bind] at q; exact q
  | ok d S1 =>
    simp only [e1, R.bind] at q
    intro w2 v H2 ex st2 r
    cases d with
    | int n =>
      simp only [builtin] at q
      split at q
      · rename_i hn
        obtain ⟨_, xs, hx, q⟩ := q
        cases hx
        cases r
        refine ⟨n, rfl, by omega, by omega, by omega, by omega, q w2 H2 ex st2 _ ?_⟩
        intro i w3 H3 S3 _ st3 _
        rw [List.length_reverse, range_len]
        refine ⟨fun h => (show (n - 0).toNat ≤ i by simpa using h), fun x hx => ?_⟩
        by_cases hi : i < n.toNat
        · rw [List.getElem?_reverse (by rw [range_len]; exact hi), range_len, range_at, if_pos (by omega)] at hx
          cases hx
          refine ⟨(show i < (n - 0).toNat by simpa using hi), fun v H' ⟨hH, hv⟩ => ?_⟩
          subst hH hv
          refine ⟨w3, Ext.refl _ _, st3, ?_⟩
          show V.int _ = V.int _
          congr 1
          omega
        · rw [List.getElem?_eq_none (by rw [List.length_reverse, range_len]; omega)] at hx
          cases hx
      · exact q.elim
    | _ => exact q.elim
end
end Lt
namespace Lt
open PySem L2 PySem.Spec PyProof.Rows
section
variable {G : AMap} {H H1 H2 : Hp} {w w1 w2 : Wd} {W : XK} {S : Sto}
variable {X : Cx} {pins : List (Addr × Obj)} {σ : L2.St} {s : Shared}
theorem keys_reps : ∀ {kvs : List (D × D)} {L : List (List L2.Key × V)} {bs : List Addr}, RepT G H w kvs L → IsKeys H L bs → Reps G H w (kvs.map (·.1)) (bs.map V.ref)
  | [], L, bs, h, k => by
    have h : L = [] := h
    subst h
    cases k
    exact Reps.nil
  | (d, v) :: r, _, _, ⟨ks, u, L', e, e2, a, b⟩, k => by
    subst e
    cases k with
    | cons h1 h2 =>
      subst e2
      exact Reps.cons ⟨_, _, rfl, .inl h1, kDVs ks⟩ (keys_reps b h2)
theorem list_ok (hc : X.calm = true) (m : Bool) : CallR X (.type "list") (rDC G fun S a => builtin m S .list a) := by
  intro pins s σ H vs us Q I r ⟨x, w, S, a, ev, st, ra, g⟩
  subst ev
  replace g : GoodN G H w (listD m S a) Q := g
  unfold listD at g
  split at g
  · rename_i xs
    obtain ⟨c, ws, rfl, rd, q⟩ := (show ∃ a us, x = .ref a ∧ Rd H a (.tup us) ∧ Reps G H w xs us from ra)
    exact call_list_of pins s σ H _ us Q I r ⟨c, ws, rfl, .inr (SqT.rd rd), fun l hl => GoodN.newLst g st q hl⟩
  · unfold listO at g
    split at g
    · rename_i xs hv
      obtain ⟨c, ws, rfl, rd, q⟩ := lst_at st ra (view_lst hv)
      exact call_list_of pins s σ H _ us Q I r ⟨c, ws, rfl, .inl (SqL.rd rd), fun l hl => GoodN.newLst g st q hl⟩
    · rename_i kvs hv
      split at g
      · rename_i hk
        obtain ⟨c, rfl, d⟩ := dct_at st ra (view_dct hv)
        rcases d with ⟨L, rd, rt⟩ | ⟨L, rd, rk⟩ | ⟨L, rd, x, _⟩
        rotate_left 2
        · exact (mixd_T x hk).elim
        · exact call_list_dT hc pins s σ H _ us Q I r ⟨c, L, rfl, rd, fun p bs hp ik => GoodN.newLst g st (keys_reps rt ik) hp⟩
        · have hL : kvs = [] ∧ L = [] := by
            cases kvs with
            | nil => exact ⟨rfl, rk⟩
            | cons p kvs =>
              have h1 := repK_keys rk
              simp only [List.all_cons, Bool.and_eq_true] at h1 hk
              exact (keyTK hk.1 h1.1).elim
          obtain ⟨rfl, rfl⟩ := hL
          exact call_listD hc pins s σ H _ us Q I r ⟨c, [], rfl, rd, fun p hp => GoodN.newLst (us := []) g st Reps.nil hp⟩
      · exact g.elim
    · exact g.elim
end
end Lt
namespace Lt
open PySem L2 PySem.Spec PyProof.Rows
/-! ### names wiped -/
theorem wipe_len (σ : L2.St) : ∀ vs : List Nat, (L2.wipe σ vs).length = σ.length
  | [] => rfl
  | v :: vs => by
    show ((L2.wipe σ vs).set v none).length = _
    rw [List.length_set]
    exact wipe_len σ vs
theorem wipe_get (σ : L2.St) : ∀ (vs : List Nat) (j : Nat), (L2.wipe σ vs)[j]? = if j ∈ vs then (σ[j]?).map fun _ => none else σ[j]?
  | [], j => by simp [L2.wipe]
  | v :: vs, j => by
    show ((L2.wipe σ vs).set v none)[j]? = _
    by_cases h : j = v
    · subst h
      rw [if_pos List.mem_cons_self]
      by_cases hl : j < σ.length
      · rw [List.getElem?_set_self (by rw [wipe_len]; exact hl), List.getElem?_eq_getElem hl]; rfl
      · rw [List.getElem?_eq_none (by rw [List.length_set, wipe_len]; omega), List.getElem?_eq_none (by omega)]; rfl
    · rw [List.getElem?_set_ne (Ne.symm h), wipe_get σ vs j]
      by_cases hm : j ∈ vs
      · rw [if_pos hm, if_pos (List.mem_cons_of_mem _ hm)]
      · rw [if_neg hm, if_neg (by simp [h, hm])]
theorem wipe_set (σ : L2.St) {vs : List Nat} {i : Nat} (x : Option V) (h : i ∈ vs) : L2.wipe (σ.set i x) vs = L2.wipe σ vs := by
  apply List.ext_getElem?
  intro j
  rw [wipe_get, wipe_get]
  by_cases hj : j = i
  · subst hj
    rw [if_pos h, if_pos h]
    by_cases hl : j < σ.length
    · rw [List.getElem?_set_self hl, List.getElem?_eq_getElem hl]; rfl
    · rw [List.getElem?_eq_none (by rw [List.length_set]; omega), List.getElem?_eq_none (by omega)]
  · rw [List.getElem?_set_ne (Ne.symm hj)]
theorem wipe_wipe (σ : L2.St) (vs : List Nat) : L2.wipe (L2.wipe σ vs) vs = L2.wipe σ vs := by
  apply List.ext_getElem?
  intro j
  rw [wipe_get, wipe_get]
  by_cases h : j ∈ vs
  · rw [if_pos h, if_pos h]
    cases σ[j]? <;> rfl
  · rw [if_neg h, if_neg h]
section
variable {G : AMap} {H H1 H2 : Hp} {w w1 w2 : Wd} {W : XK} {S : Sto} {X : Cx}
/-! ### targets -/
def gEV (G : AMap) (ts : List Nat) : TG := fun v σ H Q => ∃ w S d σD σD', SlR G H w σD σ ∧ StoR G w S H ∧ Rep G H w d v ∧ bindT ts d σD = some σD' ∧
  ∀ σ', SlR G H w σD' σ' → (∀ vs : List Nat, (∀ i ∈ ts, i ∈ vs) → L2.wipe σ' vs = L2.wipe σ vs) → Q σ' H
theorem pg_imp {tg : Expr} {t t' : TG} (h : PG X tg t) (k : ∀ v σ H Q, t' v σ H Q → t v σ H Q) : PG X tg t' := ⟨fun pins s σ H v u Q I r q => h.run pins s σ H v u Q I r (k v σ H Q q)⟩
theorem pgs_imp {tg : List Expr} {t t' : TGs} (h : PGs X tg t) (k : ∀ v σ H Q, t' v σ H Q → t v σ H Q) : PGs X tg t' := ⟨fun pins s σ H v u Q I r q => h.run pins s σ H v u Q I r (k v σ H Q q)⟩
theorem sg_name {i : Nat} {x : Str} {pos : Pos} (hN : X.N.Nodup) (hi : X.N[i]? = some x) (hx : Loc X.env.scope x) (hf : X.fn x = true ∨ X.env.scope.names.lookup x = some .local) : PG X (.Name x pos) (gEV G [i]) := by
  refine pg_imp (pg_name hN hi hx hf) fun v σ H Q ⟨w, S, d, σD, σD', sl, st, r, e, q⟩ => ?_
  cases e
  exact q _ (sl.set r) fun vs h => wipe_set σ _ (h i (by simp))
def gEVs (G : AMap) (ts : List Nat) : TGs := fun vs σ H Q => ∃ w S ds σD σD', SlR G H w σD σ ∧ StoR G w S H ∧ Reps G H w ds vs ∧ setAll ts ds σD = some σD' ∧
  ∀ σ', SlR G H w σD' σ' → (∀ vs : List Nat, (∀ i ∈ ts, i ∈ vs) → L2.wipe σ' vs = L2.wipe σ vs) → Q σ' H
/-- a target of names: the text, and the places -/
def namesAt (N : List Str) (sc : PySem.Scope) (fn : Str → Bool) : List Expr → List Nat → Bool
  | [], [] => true
  | .Name x _ :: es, i :: is => decide (N[i]? = some x) && (decide (sc.names.lookup x = some .local) || (decide (sc.names.lookup x = some .cell) && fn x)) && namesAt N sc fn es is
  | _, _ => false
theorem sgs_names (hN : X.N.Nodup) : ∀ {es : List Expr} {is : List Nat}, namesAt X.N X.env.scope X.fn es is = true → PGs X es (gEVs G is)
  | [], [], _ => pgs_imp pgs_nil fun vs σ H Q ⟨w, S, ds, σD, σD', sl, st, r, e, q⟩ => by
    cases ds with
    | nil =>
      cases e
      have r : vs = [] := r
      exact ⟨r, q σ sl fun _ _ => rfl⟩
    | cons d ds => cases e
  | .Name x pos :: es, i :: is, h => by
    simp only [namesAt, Bool.and_eq_true, Bool.or_eq_true, decide_eq_true_eq] at h
    obtain ⟨⟨h1, h2⟩, h3⟩ := h
    have hx : Loc X.env.scope x := h2.imp id fun z => z.1
    have hf : X.fn x = true ∨ X.env.scope.names.lookup x = some .local := h2.symm.imp (fun z => z.2) id
    refine pgs_imp (pgs_cons (pg_name hN h1 hx hf) (sgs_names hN h3) rfl) fun vs σ H Q ⟨w, S, ds, σD, σD', sl, st, r, e, q⟩ => ?_
    cases ds with
    | nil => cases e
    | cons d ds =>
      obtain ⟨v, us, rfl, r1, r2⟩ := r
      refine ⟨v, us, rfl, w, S, ds, _, σD', sl.set r1, st, r2, e, fun σ' sl' hw => q σ' sl' fun vs h => ?_⟩
      rw [hw vs fun j hj => h j (List.mem_cons_of_mem _ hj)]
      exact wipe_set σ _ (h i List.mem_cons_self)
  | [], _ :: _, h => by cases h
  | .Name _ _ :: _, [], h => by cases h
  | .BoolOp .. :: _, _, h => by cases h
  | .NamedExpr .. :: _, _, h => by cases h
  | .BinOp .. :: _, _, h => by cases h
  | .UnaryOp .. :: _, _, h => by cases h
  | .Lambda .. :: _, _, h => by cases h
  | .IfExp .. :: _, _, h => by cases h
  | .Dict .. :: _, _, h => by cases h
  | .Set .. :: _, _, h => by cases h
  | .ListComp .. :: _, _, h => by cases h
  | .SetComp .. :: _, _, h => by cases h
  | .DictComp .. :: _, _, h => by cases h
  | .GeneratorExp .. :: _, _, h => by cases h
  | .Await .. :: _, _, h => by cases h
  | .Yield .. :: _, _, h => by cases h
  | .YieldFrom .. :: _, _, h => by cases h
  | .Compare .. :: _, _, h => by cases h
  | .Call .. :: _, _, h => by cases h
  | .FormattedValue .. :: _, _, h => by cases h
  | .JoinedStr .. :: _, _, h => by cases h
  | .Constant .. :: _, _, h => by cases h
  | .Attribute .. :: _, _, h => by cases h
  | .Subscript .. :: _, _, h => by cases h
  | .Starred .. :: _, _, h => by cases h
  | .List .. :: _, _, h => by cases h
  | .Tuple .. :: _, _, h => by cases h
  | .Slice .. :: _, _, h => by cases h
theorem names_facts {N : List Str} {sc : PySem.Scope} {fn : Str → Bool} {env : Env} : ∀ {es : List Expr} {is : List Nat}, namesAt N sc fn es is = true → (assignEach es env).length = is.length ∧ List.findIdx? (fun x => x.1) (assignEach es env) = none
  | [], [], _ => ⟨rfl, rfl⟩
  | .Name x pos :: es, i :: is, h => by
    simp only [namesAt, Bool.and_eq_true] at h
    obtain ⟨a, b⟩ := names_facts (env := env) h.2
    have e : assignEach (.Name x pos :: es) env = (false, assign (.Name x pos) env) :: assignEach es env := rfl
    rw [e]
    refine ⟨by simp [a], ?_⟩
    rw [List.findIdx?_cons, b]
    rfl
  | [], _ :: _, h => by cases h
  | .Name _ _ :: _, [], h => by cases h
  | .BoolOp .. :: _, _, h => by cases h
  | .NamedExpr .. :: _, _, h => by cases h
  | .BinOp .. :: _, _, h => by cases h
  | .UnaryOp .. :: _, _, h => by cases h
  | .Lambda .. :: _, _, h => by cases h
  | .IfExp .. :: _, _, h => by cases h
  | .Dict .. :: _, _, h => by cases h
  | .Set .. :: _, _, h => by cases h
  | .ListComp .. :: _, _, h => by cases h
  | .SetComp .. :: _, _, h => by cases h
  | .DictComp .. :: _, _, h => by cases h
  | .GeneratorExp .. :: _, _, h => by cases h
  | .Await .. :: _, _, h => by cases h
  | .Yield .. :: _, _, h => by cases h
  | .YieldFrom .. :: _, _, h => by cases h
  | .Compare .. :: _, _, h => by cases h
  | .Call .. :: _, _, h => by cases h
  | .FormattedValue .. :: _, _, h => by cases h
  | .JoinedStr .. :: _, _, h => by cases h
  | .Constant .. :: _, _, h => by cases h
  | .Attribute .. :: _, _, h => by cases h
  | .Subscript .. :: _, _, h => by cases h
  | .Starred .. :: _, _, h => by cases h
  | .List .. :: _, _, h => by cases h
  | .Tuple .. :: _, _, h => by cases h
  | .Slice .. :: _, _, h => by cases h
theorem setAll_len : ∀ {is : List Nat} {ds : List D} {σ σ' : Slots}, setAll is ds σ = some σ' → is.length = ds.length
  | [], [], _, _, _ => rfl
  | _ :: is, _ :: ds, _, _, h => by
    have := setAll_len (is := is) (ds := ds) h
    simp [this]
  | [], _ :: _, _, _, h => by cases h
  | _ :: _, [], _, _, h => by cases h
theorem sg_names (hc : X.calm = true) (hN : X.N.Nodup) {es : List Expr} {is : List Nat} {k : Nat} {pos : Pos} (h : namesAt X.N X.env.scope X.fn es is = true) (h2 : is.length ≠ 1) : PG X (.Tuple es k pos) (gEV G is) := by
  obtain ⟨a, b⟩ := names_facts (env := X.env) h
  refine pg_imp (pg_tup hc (sgs_names (G := G) hN h) a b) fun v σ H Q ⟨w, S, d, σD, σD', sl, st, r, e, q⟩ => ?_
  have e2 : ∃ xs, d = .tup xs ∧ setAll is xs σD = some σD' := by
    unfold bindT at e
    split at e
    · exact absurd rfl h2
    · split at e
      · exact ⟨_, rfl, e⟩
      · cases e
  obtain ⟨xs, rfl, e2⟩ := e2
  obtain ⟨c, us, rfl, rd, rs⟩ := r
  exact ⟨c, us, rfl, SqT.rd rd, by rw [Reps.length rs]; exact (setAll_len e2).symm, w, S, xs, σD, σD', sl, st, rs, e2, q⟩
end
end Lt
namespace Lt
open PySem L2 PySem.Spec PyProof.Rows
/-- all that is seen in H is seen in H' -/
def Sees (H H' : Hp) : Prop := ∀ c x, NoFz x → Rd H c x → Rd H' c x
section
variable {G : AMap} {H H' H1 H2 : Hp} {w w1 w2 : Wd} {W : XK} {S S2 : Sto} {X : Cx}
theorem TupR.sees (e : Sees H H') {m : MEnt} (h : TupR H m) : TupR H' m := by
  cases m with
  | inl k => trivial
  | inr p => exact e _ _ (fun _ _ z => by cases z) h
mutual
theorem Rep.sees (e : Sees H H') : ∀ (d : D) (v : V), Rep G H w d v → Rep G H' w d v
  | .non, _, h => h
  | .bl _, _, h => h
  | .int _, _, h => h
  | .str _, _, h => h
  | .fn _, _, h => h
  | .tup xs, v, ⟨a, us, e1, r, q⟩ => ⟨a, us, e1, e _ _ (fun _ _ z => by cases z) r, Reps.sees e xs us q⟩
  | .vl xs, v, ⟨a, us, e1, f, r, q⟩ => ⟨a, us, e1, f, e _ _ (fun _ _ z => by cases z) r, Reps.sees e xs us q⟩
  | .vd kvs, v, ⟨a, e1, f, q⟩ => ⟨a, e1, f, q.elim (fun ⟨L, r, t⟩ => .inl ⟨L, e _ _ (fun _ _ z => by cases z) r, RepT.sees e kvs L t⟩) fun q => .inr (q.elim (fun ⟨L, r, t⟩ => .inl ⟨L, e _ _ (fun _ _ z => by cases z) r, RepK.sees e kvs L t⟩) fun ⟨L, r, x, t⟩ => .inr ⟨L, e _ _ (mx_nf _ _ _) r, x, RepM.sees e kvs L t⟩)⟩
  | .loc l, v, h => h
theorem Reps.sees (e : Sees H H') : ∀ (xs : List D) (us : List V), Reps G H w xs us → Reps G H' w xs us
  | [], _, h => h
  | x :: xs, _, ⟨u, r, e1, a, b⟩ => ⟨u, r, e1, Rep.sees e x u a, Reps.sees e xs r b⟩
theorem RepT.sees (e : Sees H H') : ∀ (xs : List (D × D)) (L : List (List L2.Key × V)), RepT G H w xs L → RepT G H' w xs L
  | [], _, h => h
  | (k, d) :: xs, _, ⟨ks, u, r, e1, e2, a, b⟩ => ⟨ks, u, r, e1, e2, Rep.sees e d u a, RepT.sees e xs r b⟩
theorem RepK.sees (e : Sees H H') : ∀ (xs : List (D × D)) (L : List (L2.Key × V)), RepK G H w xs L → RepK G H' w xs L
  | [], _, h => h
  | (k, d) :: xs, _, ⟨ks, u, r, e1, e2, a, b⟩ => ⟨ks, u, r, e1, e2, Rep.sees e d u a, RepK.sees e xs r b⟩
theorem RepM.sees (e : Sees H H') : ∀ (xs : List (D × D)) (L : List (MEnt × V)), RepM G H w xs L → RepM G H' w xs L
  | [], _, h => h
  | (k, d) :: xs, _, ⟨ks, u, r, e1, e2, t, a, b⟩ => ⟨ks, u, r, e1, e2, t.sees e, Rep.sees e d u a, RepM.sees e xs r b⟩
end
theorem RepF.sees (e : Sees H H') : ∀ (fs : List (Str × D)) (gs : List (Str × V)), RepF G H w fs gs → RepF G H' w fs gs
  | [], _, h => h
  | (_, d) :: fs, _, ⟨u, gs', e1, a, b⟩ => ⟨u, gs', e1, Rep.sees e d u a, RepF.sees e fs gs' b⟩
theorem ObR.sees (e : Sees H H') {o : Ob} {a : Addr} (k : H' a = H a) (h : ObR G H w o a) : ObR G H' w o a := by
  cases o with
  | lst xs =>
    obtain ⟨us, h1, h2⟩ := h
    exact ⟨us, k.trans h1, Reps.sees e _ _ h2⟩
  | dct kvs =>
    rcases h with ⟨L, h1, h2⟩ | ⟨L, h1, h2⟩ | ⟨L, h1, x, h2⟩
    · exact .inl ⟨L, k.trans h1, RepT.sees e _ _ h2⟩
    · exact .inr (.inl ⟨L, k.trans h1, RepK.sees e _ _ h2⟩)
    · exact .inr (.inr ⟨L, k.trans h1, x, RepM.sees e _ _ h2⟩)
  | fdct kvs =>
    rcases h with ⟨L, ⟨o, h1⟩, h2⟩ | ⟨L, ⟨o, h1⟩, h2⟩ | ⟨L, ⟨o, h1⟩, x, h2⟩
    · exact .inl ⟨L, ⟨o, k.trans h1⟩, RepT.sees e _ _ h2⟩
    · exact .inr (.inl ⟨L, ⟨o, k.trans h1⟩, RepK.sees e _ _ h2⟩)
    · exact .inr (.inr ⟨L, ⟨o, k.trans h1⟩, x, RepM.sees e _ _ h2⟩)
  | ins c fs =>
    obtain ⟨C, dx, gs, g, h1, h2⟩ := h
    exact ⟨C, dx, gs, g, k.trans h1, RepF.sees e _ _ h2⟩
theorem SlR.sees (e : Sees H H') {σD : Slots} {σ : L2.St} (h : SlR G H w σD σ) : SlR G H' w σD σ := ⟨fun i d q => by
  obtain ⟨v, e1, r⟩ := h.at_ i d q
  exact ⟨v, e1, Rep.sees e d v r⟩, h.le⟩
/-- an object that may be locked -/
structure Lk (H : Hp) (a : Addr) (u : HO) : Prop where
  at_ : H a = some u
  dic : (∃ L, u = .dT L) ∨ (∃ L, u = .dK L) ∨ ∃ wo L, u = mxO wo a L
variable {a : Addr} {u : HO} {od : Obj}
theorem Lk.mut (k : Lk H a u) : Mut (some u) := by
  rcases k.dic with ⟨L, rfl⟩ | ⟨L, rfl⟩ | ⟨wo, L, rfl⟩ <;> trivial
theorem Lk.nt (k : Lk H a u) (us : List V) : u ≠ .tup us := by
  rcases k.dic with ⟨L, rfl⟩ | ⟨L, rfl⟩ | ⟨wo, L, rfl⟩ <;> (intro z; cases z)
theorem Lk.nf (k : Lk H a u) : NoFz u := by
  rcases k.dic with ⟨L, rfl⟩ | ⟨L, rfl⟩ | ⟨wo, L, rfl⟩ <;> (intro o y z; cases z)
theorem Lk.lock (k : Lk H a u) : Sees H (L2.upd H a (.frz od u)) := by
  intro c x nx h
  by_cases hc : c = a
  · subst hc
    rcases h with h | ⟨o, h⟩
    · rw [k.at_] at h
      cases h
      exact .inr ⟨od, upd_same⟩
    · rw [k.at_] at h
      exact absurd (Option.some.inj h) (k.nf _ _)
  · unfold Rd
    rw [upd_ne hc]; exact h
theorem Lk.unlock (h2 : H2 a = some (.frz od u)) : Sees H2 (L2.upd H2 a u) := by
  intro c x nx h
  by_cases hc : c = a
  · subst hc
    rcases h with h | ⟨o, h⟩
    · rw [h2] at h
      exact absurd (Option.some.inj h).symm (nx _ _)
    · rw [h2] at h
      cases h
      exact .inl upd_same
  · unfold Rd
    rw [upd_ne hc]; exact h
theorem Lk.ext (k : Lk H a u) (e : Ext (L2.upd H a (.frz od u)) w H2 w2) (h2 : H2 a = some (.frz od u)) : Ext H w (L2.upd H2 a u) w2 where
  tup := fun c us h => by
    have hc : c ≠ a := fun z => by rw [z, k.at_] at h; exact k.nt us (Option.some.inj h)
    rw [upd_ne hc]
    exact e.tup c us (by rw [upd_ne hc]; exact h)
  frz := fun c o x h => by
    have hc : c ≠ a := fun z => by rw [z, k.at_] at h; exact k.nf _ _ (Option.some.inj h)
    rw [upd_ne hc]
    exact e.frz c o x (by rw [upd_ne hc]; exact h)
  fz := fun c f => by
    refine ⟨(e.fz c f).1, ?_⟩
    by_cases hc : c = a
    · subst hc; rw [upd_same, k.at_]; exact .inl rfl
    · rw [upd_ne hc]
      have := (e.fz c f).2
      rw [upd_ne hc] at this
      exact this
  ph := e.ph
  keep := fun c o h n f => by
    by_cases hc : c = a
    · subst hc; rw [upd_same, ← k.at_, h]
    · rw [upd_ne hc]
      exact e.keep c o (by rw [upd_ne hc]; exact h) n f
  newP := fun c m => (e.newP c m).imp id fun z => by
    by_cases hc : c = a
    · subst hc; rw [upd_same] at z; cases z
    · rw [upd_ne hc] at z; exact z
  newF := fun c m => (e.newF c m).imp id fun ⟨y, z⟩ => ⟨y, by
    by_cases hc : c = a
    · subst hc; rw [upd_same] at z; cases z
    · rw [upd_ne hc] at z; exact z⟩
/-- to lock is a step -/
theorem Lk.extL (k : Lk H a u) (ha : a ∈ w.ph ∨ w.Fz a) : Ext H w (L2.upd H a (.frz od u)) w where
  tup := fun c us h => by
    have hc : c ≠ a := fun z => by rw [z, k.at_] at h; exact k.nt us (Option.some.inj h)
    rw [upd_ne hc]; exact h
  frz := fun c o x h => by
    have hc : c ≠ a := fun z => by rw [z, k.at_] at h; exact k.nf _ _ (Option.some.inj h)
    rw [upd_ne hc]; exact h
  fz := fun c f => ⟨f, by
    by_cases hc : c = a
    · subst hc; exact .inr ⟨od, u, k.at_, k.nf, upd_same⟩
    · rw [upd_ne hc]; exact .inl rfl⟩
  ph := fun _ _ h => h
  keep := fun c o h n f => by
    have hc : c ≠ a := fun z => ha.elim (fun m => n (z ▸ m)) fun m => f (z ▸ m)
    rw [upd_ne hc]; exact h
  newP := fun _ m => .inl m
  newF := fun _ m => .inl m
theorem fr_lock (k : Lk H a u) (h : ∀ c x us, H c = some (.frz x (.tup us)) → us = [.str (Str.ofString "drawer")] ∨ us = [.str (Str.ofString "gone")]) :
    ∀ c x us, L2.upd H a (.frz od u) c = some (.frz x (.tup us)) → us = [.str (Str.ofString "drawer")] ∨ us = [.str (Str.ofString "gone")] := fun c x us e => by
  by_cases hc : c = a
  · subst hc
    rw [upd_same] at e
    cases e
    exact absurd rfl (k.nt us)
  · rw [upd_ne hc] at e
    exact h c x us e
theorem gd_lock (k : Lk H a u) {b : Addr} {x : List V} (h : ∃ o, H b = some (.frz o (.tup x))) : ∃ o, L2.upd H a (.frz od u) b = some (.frz o (.tup x)) := by
  obtain ⟨o, h⟩ := h
  have hc : b ≠ a := fun z => by rw [z, k.at_] at h; exact k.nf _ _ (Option.some.inj h)
  exact ⟨o, by rw [upd_ne hc]; exact h⟩
/-- a value, locked -/
theorem StoR.lockV (st : StoR G w S H) (k : Lk H a u) (hF : w.Fz a) : StoR G w S (L2.upd H a (.frz od u)) where
  len := st.len
  nd := st.nd
  ob := fun l c e => by
    obtain ⟨o, h1, h2⟩ := st.ob l c e
    have hc : c ≠ a := fun z => st.ap a hF (z ▸ List.mem_of_getElem? e)
    exact ⟨o, h1, h2.sees k.lock (upd_ne hc)⟩
  ap := st.ap
  fz := fun c f => by
    by_cases hc : c = a
    · subst hc; rw [upd_same]; simp
    · rw [upd_ne hc]; exact st.fz c f
  fr := fr_lock k st.fr
  gd := fun b h => gd_lock k (st.gd b h)
  gg := fun b h => gd_lock k (st.gg b h)
theorem StoR.unlockV (st : StoR G w2 S2 H2) (hF : w2.Fz a) (h2 : H2 a = some (.frz od u)) (nt : ∀ us, u ≠ .tup us) (nf : NoFz u) : StoR G w2 S2 (L2.upd H2 a u) where
  len := st.len
  nd := st.nd
  ob := fun l c e => by
    obtain ⟨o, h1, h3⟩ := st.ob l c e
    have hc : c ≠ a := fun z => st.ap a hF (z ▸ List.mem_of_getElem? e)
    exact ⟨o, h1, h3.sees (Lk.unlock h2) (upd_ne hc)⟩
  ap := st.ap
  fz := fun c f => by
    by_cases hc : c = a
    · subst hc; rw [upd_same]; simp
    · rw [upd_ne hc]; exact st.fz c f
  fr := fr_upd (fun x us z => nf _ _ z) st.fr
  gd := fun b h => by
    obtain ⟨o, h⟩ := st.gd b h
    have hc : b ≠ a := fun z => by rw [z, h2] at h; cases h; exact nt _ rfl
    exact ⟨o, by rw [upd_ne hc]; exact h⟩
  gg := fun b h => by
    obtain ⟨o, h⟩ := st.gg b h
    have hc : b ≠ a := fun z => by rw [z, h2] at h; cases h; exact nt _ rfl
    exact ⟨o, by rw [upd_ne hc]; exact h⟩
theorem place_ne (st : StoR G w S H) {l m : Nat} {c : Addr} (hp : w.ph[l]? = some a) (e : w.ph[m]? = some c) (hm : m ≠ l) : c ≠ a := fun z => hm (by
  subst z
  exact (List.getElem?_inj (List.getElem?_eq_some_iff.mp e).1 st.nd).mp (e.trans hp.symm))
/-- a place, locked -/
theorem StoR.lockL (st : StoR G w S H) {l : Nat} {kvs : List (D × D)} (hp : w.ph[l]? = some a) (hS : S[l]? = some (.dct kvs)) (k : Lk H a u) : StoR G w (S.set l (.fdct kvs)) (L2.upd H a (.frz od u)) where
  len := by rw [List.length_set]; exact st.len
  nd := st.nd
  ob := fun m c e => by
    obtain ⟨o, h1, h2⟩ := st.ob m c e
    by_cases hm : m = l
    · subst hm
      rw [hp] at e
      obtain rfl : a = c := Option.some.inj e
      rw [hS] at h1
      obtain rfl : Ob.dct kvs = o := Option.some.inj h1
      refine ⟨.fdct kvs, by rw [List.getElem?_set_self (List.getElem?_eq_some_iff.mp hS).1], ?_⟩
      rcases h2 with ⟨L, e1, q⟩ | ⟨L, e1, q⟩ | ⟨L, e1, x, q⟩
      · rw [k.at_] at e1
        cases e1
        exact .inl ⟨L, ⟨od, upd_same⟩, RepT.sees k.lock _ _ q⟩
      · rw [k.at_] at e1
        cases e1
        exact .inr (.inl ⟨L, ⟨od, upd_same⟩, RepK.sees k.lock _ _ q⟩)
      · rw [k.at_] at e1
        cases e1
        exact .inr (.inr ⟨L, ⟨od, upd_same⟩, x, RepM.sees k.lock _ _ q⟩)
    · exact ⟨o, by rw [List.getElem?_set_ne (Ne.symm hm)]; exact h1, h2.sees k.lock (upd_ne (place_ne st hp e hm))⟩
  ap := st.ap
  fz := fun c f => by
    by_cases hc : c = a
    · subst hc; rw [upd_same]; simp
    · rw [upd_ne hc]; exact st.fz c f
  fr := fr_lock k st.fr
  gd := fun b h => gd_lock k (st.gd b h)
  gg := fun b h => gd_lock k (st.gg b h)
theorem StoR.unlockL (st : StoR G w2 S2 H2) {l : Nat} {kvs : List (D × D)} (hp : w2.ph[l]? = some a) (hS : S2[l]? = some (.fdct kvs)) (h2 : H2 a = some (.frz od u)) (nt : ∀ us, u ≠ .tup us) (nf : NoFz u) : StoR G w2 (S2.set l (.dct kvs)) (L2.upd H2 a u) where
  len := by rw [List.length_set]; exact st.len
  nd := st.nd
  ob := fun m c e => by
    obtain ⟨o, h1, h3⟩ := st.ob m c e
    by_cases hm : m = l
    · subst hm
      rw [hp] at e
      obtain rfl : a = c := Option.some.inj e
      rw [hS] at h1
      obtain rfl : Ob.fdct kvs = o := Option.some.inj h1
      refine ⟨.dct kvs, by rw [List.getElem?_set_self (List.getElem?_eq_some_iff.mp hS).1], ?_⟩
      rcases h3 with ⟨L, ⟨o, e1⟩, q⟩ | ⟨L, ⟨o, e1⟩, q⟩ | ⟨L, ⟨o, e1⟩, x, q⟩
      · rw [h2] at e1
        cases e1
        exact .inl ⟨L, upd_same, RepT.sees (Lk.unlock h2) _ _ q⟩
      · rw [h2] at e1
        cases e1
        exact .inr (.inl ⟨L, upd_same, RepK.sees (Lk.unlock h2) _ _ q⟩)
      · rw [h2] at e1
        cases e1
        exact .inr (.inr ⟨L, upd_same, x, RepM.sees (Lk.unlock h2) _ _ q⟩)
    · exact ⟨o, by rw [List.getElem?_set_ne (Ne.symm hm)]; exact h1, h3.sees (Lk.unlock h2) (upd_ne (place_ne st hp e hm))⟩
  ap := st.ap
  fz := fun c f => by
    by_cases hc : c = a
    · subst hc; rw [upd_same]; simp
    · rw [upd_ne hc]; exact st.fz c f
  fr := fr_upd (fun x us z => nf _ _ z) st.fr
  gd := fun b h => by
    obtain ⟨o, h⟩ := st.gd b h
    have hc : b ≠ a := fun z => by rw [z, h2] at h; cases h; exact nt _ rfl
    exact ⟨o, by rw [upd_ne hc]; exact h⟩
  gg := fun b h => by
    obtain ⟨o, h⟩ := st.gg b h
    have hc : b ≠ a := fun z => by rw [z, h2] at h; cases h; exact nt _ rfl
    exact ⟨o, by rw [upd_ne hc]; exact h⟩
end
end Lt
namespace Lt
open PySem L2 PySem.Spec PyProof.Rows
section
variable {G : AMap} {H H' H1 H2 : Hp} {w w1 w2 : Wd} {W : XK} {S S1 S2 : Sto} {X : Cx}
def GoodT (G : AMap) (H : Hp) (w : Wd) (W : XK) (r : R Bool) (Q : Bool → Hp → Prop) : Prop := match r with
  | .ok b S' => ∀ w2 H2, Ext H w H2 w2 → StoR G w2 S' H2 → Q b H2
  | .exc x S' => GoodX G H w x S' W
  | .bad => False
def tTS (G : AMap) (W : XK) (f : Slots → Sto → R Bool) : TT := fun σ H Q => ∃ w σD S, SlR G H w σD σ ∧ StoR G w S H ∧ GoodT G H w W (f σD S) Q
theorem pts_imp {e : List Expr} {t t' : TT} (h : PTs X e t) (k : ∀ σ H Q, t' σ H Q → t σ H Q) : PTs X e t' := ⟨fun pins s σ H Q I q => h.run pins s σ H Q I (k σ H Q q)⟩
theorem sts_nil : PTs X [] (tTS G W fun _ S => .ok true S) := pts_imp pts_nil fun σ H Q ⟨w, σD, S, sl, st, q⟩ => q w H (Ext.refl _ _) st
theorem sts_one {c : Expr} {f : fE} (h : PT X c (tEVT G W f)) : PTs X [c] (tTS G W fun σ S => (f σ S).bind fun d S1 => match d with
    | .bl true => (R.ok true S1 : R Bool)
    | .bl false => .ok false S1
    | _ => .bad) := by
  refine pts_imp (pts_one h) fun σ H Q ⟨w, σD, S, sl, st, q⟩ => ⟨w, σD, S, sl, st, ?_⟩
  cases e : f σD S with
  | bad => simp only [e, R.bind] at q; exact q.elim
  | exc x S1 => simp only [e, R.bind] at q; exact q
  | ok d S1 =>
    simp only [e, R.bind] at q
    cases d with
    | bl b => cases b <;> exact q
    | _ => exact q.elim
/-- one turn of a comprehension -/
def lcStep (ts : List Nat) (σ : Slots) (fc : Slots → Sto → R Bool) (fe : fE) (x : D) (S : Sto) : R (Option D) := match bindT ts x (wipeD σ ts) with
  | none => .bad
  | some σ' => (fc σ' S).bind fun b S3 => if b then (fe σ' S3).bind fun y S4 => .ok (some y) S4 else .ok none S3
theorem lc_core {J : It} {k : Bool} {d : D} {xs ys : List D} {ts : List Nat} {σD : Slots} {σ : L2.St} {fc : Slots → Sto → R Bool} {fe : fE} {W1 W2 : XK} {Q : VK}
    (wk : Wlk G J k d xs H1 w1) (st1 : StoR G w1 S1 H1) (sl : SlR G H1 w1 σD σ) (r : lcGo (lcStep ts σD fc fe) k d xs xs S1 [] = .ok ys S2)
    (fin : ∀ w2 H2 D us, Ext H1 w1 H2 w2 → StoR G w2 S2 H2 → H1 D = none → D ∉ w1.ph → H2 D = some (.lst us) → D ∉ w2.ph → ¬ w2.Fz D → Reps G H2 w2 ys us → Q (.ref D) H2) (D : Addr) (hD : H1 D = none) :
    ∃ W : Nat → Nat → Hp → Prop, (∃ m, W 0 m (L2.upd H1 D (.lst []))) ∧ ∀ (i m : Nat) (H : Hp), W i m H →
      (J.stop i H ∧ Q (.ref D) H) ∨ (J.go i H ∧ ∃ Nx : Hp → Prop, (∀ H', Nx H' → ∃ m', m' < m ∧ W (i + 1) m' H') ∧ ∀ (x : V) (H' : Hp), J.yld i H x H' →
        gEV G ts x (L2.wipe σ ts) H' fun σ2 H2 => L2.wipe σ2 ts = L2.wipe σ ts ∧ tTS G W1 fc σ2 H2 fun b H3 => if b = true then tEV G W2 fe σ2 H3 fun y H4 =>
          ∃ acc, H4 D = some (.lst acc) ∧ acc.length < sizeLine ∧ Nx (L2.upd H4 D (.lst (acc ++ [y]))) else Nx H3) := by
  have hp1 : D ∉ w1.ph := fun m => st1.mem m hD
  have hF1 : ¬ w1.Fz D := fun f => st1.fz D f hD
  let Inv (i : Nat) (H : Hp) : Prop := ∃ w S acc us, Ext H1 w1 H w ∧ StoR G w S H ∧ H D = some (.lst us) ∧ D ∉ w.ph ∧ ¬ w.Fz D ∧ Reps G H w acc us ∧ lcGo (lcStep ts σD fc fe) k d xs (xs.drop i) S acc = .ok ys S2
  refine ⟨fun i m H => i + m = xs.length ∧ Inv i H, ⟨xs.length, by omega, w1, S1, [], [], Ext.upd st1 hD, st1.upd hD, upd_same, hp1, hF1, rfl, r⟩, ?_⟩
  rintro i m H ⟨him, w, S, acc, us, ex, st, hD2, hp, hF, rs, r⟩
  by_cases hi : i < xs.length
  · right
    rw [List.drop_eq_getElem_cons hi] at r
    simp only [lcGo] at r
    split at r
    · rename_i hst
      simp only [Bool.and_eq_true, decide_eq_true_eq] at hst
      obtain ⟨go, yl⟩ := (wk i w H S ex st hst.1).2 xs[i] (List.getElem?_eq_getElem hi)
      refine ⟨go, fun H' => Inv (i + 1) H', fun H' h => ⟨m - 1, by omega, by omega, h⟩, fun x H' hy => ?_⟩
      obtain ⟨w', e1, st1', rx⟩ := yl x H' hy
      have keepD : ∀ {wa wb : Wd} {Ha Hb : Hp} {vs : List V}, Ext Ha wa Hb wb → Ha D = some (.lst vs) → D ∉ wa.ph → ¬ wa.Fz D → Hb D = some (.lst vs) ∧ D ∉ wb.ph ∧ ¬ wb.Fz D := fun {wa wb Ha Hb vs} e h hp hF =>
        ⟨e.keep D _ h hp hF, fun m => (e.newP D m).elim hp (fun z => by rw [h] at z; cases z), fun f => (e.newF D f).elim hF (fun z => by rw [h] at z; cases z.2)⟩
      obtain ⟨hDa, hpa, hFa⟩ := keepD e1 hD2 hp hF
      have exa := ex.trans e1
      unfold lcStep at r
      cases hb : bindT ts xs[i] (wipeD σD ts) with
      | none => rw [hb] at r; simp at r
      | some σ' =>
        rw [hb] at r
        refine ⟨w', S, xs[i], _, σ', (sl.mono exa).wipe ts, st1', rx, hb, fun σ2 sl2 hw => ⟨by rw [hw ts (fun _ h => h)]; exact wipe_wipe σ ts, w', σ', S, sl2, st1', ?_⟩⟩
        cases hc : fc σ' S with
        | bad => simp [hc, R.bind] at r
        | exc y S3 => simp [hc, R.bind] at r
        | ok b S3 =>
          simp only [hc, R.bind] at r
          intro wb Hb eb stb
          obtain ⟨hDb, hpb, hFb⟩ := keepD eb hDa hpa hFa
          cases b with
          | false =>
            rw [if_neg (by simp)] at r ⊢
            exact ⟨wb, S3, acc, us, exa.trans eb, stb, hDb, hpb, hFb, Reps.mono (e1.trans eb) _ _ rs, r⟩
          | true =>
            rw [if_pos rfl] at r ⊢
            refine ⟨wb, σ', S3, sl2.mono eb, stb, ?_⟩
            cases he : fe σ' S3 with
            | bad => simp [he, R.bind] at r
            | exc y S4 => simp [he, R.bind] at r
            | ok y S4 =>
              simp only [he, R.bind] at r
              intro wc v Hc ec stc rc
              obtain ⟨hDc, hpc, hFc⟩ := keepD ec hDb hpb hFb
              have rs' := Reps.mono ((e1.trans eb).trans ec) _ _ rs
              refine ⟨us, hDc, by rw [Reps.length rs']; exact Nat.lt_of_lt_of_le hst.2 (by rw [sizeLine_eq]; decide), wc, S4, acc ++ [y], us ++ [v], ?_, ?_, upd_same, hpc, hFc, ?_, r⟩
              · exact Ext.free hDc hpc hFc (fun _ z => by cases z) (fun _ _ z => by cases z) H1 w1 ((exa.trans eb).trans ec) hD
              · exact stc.free hpc hFc (fun us z => by rw [hDc] at z; cases z) (fun o u z => by rw [hDc] at z; cases z)
              · have sm : Same D Hc (L2.upd Hc D (.lst (us ++ [v]))) := ⟨fun b hb => upd_ne hb, (fun us z => by rw [hDc] at z; cases z), (fun o u z => by rw [hDc] at z; cases z)⟩
                exact Reps.append (Reps.same sm hFc _ _ rs') (Reps.cons (Rep.same sm hFc _ _ rc) Reps.nil)
    · cases r
  · left
    have hl : xs.length ≤ i := by omega
    rw [List.drop_eq_nil_of_le hl] at r
    simp only [lcGo] at r
    split at r
    · rename_i hst
      cases r
      exact ⟨(wk i w H S2 ex st hst).1 hl, fin w H D us ex st hD hp1 hD2 hp hF rs⟩
    · cases r
end
end Lt
namespace Lt
open PySem L2 PySem.Spec PyProof.Rows
/-- what is known of a walked expression -/
structure Head (X : Cx) (G : AMap) (W : XK) (tg iter : Expr) (pv pu : Bool) (f : fE) : Prop where
  gen : PI X tg iter (iEV G W pu f)
  pure : pu = true → ∀ σ S d S', f σ S = .ok d S' → S' = S ∧ ∀ l kvs, d = .loc l → S[l]? = some (.dct kvs) → f σ (S.set l (.fdct kvs)) = .ok d (S.set l (.fdct kvs))
  var : pv = true → ∃ i : Nat, (∀ σ S d S', f σ S = .ok d S' → σ[i]? = some (some d) ∧ S' = S) ∧ PI X tg iter (iVar G i)
theorem itemsOf_pv {pv pu : Bool} {S : Sto} {d : D} {xs : List D} (hd : isVd d = false) (h : itemsOf pv pu S d = some xs) : itemsOf false pu S d = some xs := by
  cases d with
  | vd kvs => cases hd
  | _ => exact h
theorem lcGo_ne {f : D → Sto → R (Option D)} {k : Bool} {d : D} {all : List D} : ∀ (xs : List D) (S : Sto) (acc : List D) (x : Str) (S' : Sto), lcGo f k d all xs S acc ≠ .exc x S'
  | [], S, acc, x, S' => by
    simp only [lcGo]
    split <;> (intro z; cases z)
  | y :: r, S, acc, x, S' => by
    simp only [lcGo]
    split
    · split
      · exact lcGo_ne r _ _ x S'
      · exact lcGo_ne r _ _ x S'
      · intro z; cases z
      · intro z; cases z
    · intro z; cases z
section
variable {G : AMap} {H H' H1 H2 : Hp} {w w1 w2 : Wd} {W : XK} {S S1 S2 : Sto} {X : Cx}
theorem pe_or2 {e : Expr} {t t' : TE} (h : PE X e t) (h' : PE X e t') : PE X e (fun σ H Q => t σ H Q ∨ t' σ H Q) := ⟨fun pins s σ H Q I q => q.elim (h.run pins s σ H Q I) (h'.run pins s σ H Q I)⟩
/-- how d stands: nothing is locked, a place is, a value is -/
theorem how_locked (S : Sto) (d : D) : (isVd d = false ∧ notDct S d ∧ lock S d = S ∧ ∀ S2 S3, unlock S S2 d = some S3 → S3 = S2) ∨ (∃ l kvs, d = .loc l ∧ S[l]? = some (.dct kvs) ∧ lock S d = S.set l (.fdct kvs) ∧ ∀ S2 S3, unlock S S2 d = some S3 → S2[l]? = some (.fdct kvs) ∧ S3 = S2.set l (.dct kvs)) ∨ ∃ kvs, d = .vd kvs := by
  cases d with
  | vd kvs => exact .inr (.inr ⟨kvs, rfl⟩)
  | loc l =>
    cases h : S[l]? with
    | none => exact .inl ⟨rfl, fun kvs => by rw [h]; simp, by simp [lock, h], fun S2 S3 e => by simp [unlock, h] at e⟩
    | some o =>
      cases o with
      | dct kvs =>
        refine .inr (.inl ⟨l, kvs, rfl, h, by simp [lock, h], fun S2 S3 e => ?_⟩)
        simp only [unlock, h] at e
        cases h2 : S2[l]? with
        | none => rw [h2] at e; cases e
        | some o =>
          rw [h2] at e
          cases o with
          | fdct b =>
            simp only at e
            split at e
            · rename_i hs
              have := (D.sameK_iff _ _).mp hs
              subst this
              cases e
              exact ⟨rfl, rfl⟩
            · cases e
          | _ => cases e
      | lst xs =>
        refine .inl ⟨rfl, fun kvs => by rw [h]; simp, by simp [lock, h], fun S2 S3 e => ?_⟩
        simp only [unlock, h] at e
        cases h2 : S2[l]? with
        | none => rw [h2] at e; cases e
        | some o =>
          rw [h2] at e
          cases o with
          | lst b =>
            simp only at e
            split at e
            · cases e; rfl
            · cases e
          | _ => cases e
      | fdct xs =>
        refine .inl ⟨rfl, fun kvs => by rw [h]; simp, by simp [lock, h], fun S2 S3 e => ?_⟩
        simp only [unlock, h] at e
        cases h2 : S2[l]? with
        | none => rw [h2] at e; cases e
        | some o =>
          rw [h2] at e
          cases o with
          | fdct b => cases e; rfl
          | _ => cases e
      | ins c fs =>
        refine .inl ⟨rfl, fun kvs => by rw [h]; simp, by simp [lock, h], fun S2 S3 e => ?_⟩
        simp only [unlock, h] at e
        cases e
  | _ => exact .inl ⟨rfl, trivial, rfl, fun S2 S3 e => by cases e; rfl⟩
theorem lk_place (st : StoR G w S H) {l : Nat} {kvs : List (D × D)} (hS : S[l]? = some (.dct kvs)) : ∃ a u, w.ph[l]? = some a ∧ Lk H a u := by
  have hl : l < w.ph.length := by rw [st.len]; exact (List.getElem?_eq_some_iff.mp hS).1
  obtain ⟨o, h1, h2⟩ := st.ob l _ (List.getElem?_eq_getElem hl)
  rw [hS] at h1
  obtain rfl : Ob.dct kvs = o := Option.some.inj h1
  rcases h2 with ⟨L, e, _⟩ | ⟨L, e, _⟩ | ⟨L, e, _⟩
  · exact ⟨_, _, List.getElem?_eq_getElem hl, e, .inl ⟨L, rfl⟩⟩
  · exact ⟨_, _, List.getElem?_eq_getElem hl, e, .inr (.inl ⟨L, rfl⟩)⟩
  · exact ⟨_, _, List.getElem?_eq_getElem hl, e, .inr (.inr ⟨_, L, rfl⟩)⟩
theorem lk_val {kvs : List (D × D)} {v : V} (r : Rep G H w (.vd kvs) v) : ∃ a, v = .ref a ∧ w.Fz a ∧ ((∃ o u, H a = some (.frz o u)) ∨ ∃ u, Lk H a u) := by
  obtain ⟨a, rfl, hF, q⟩ := r
  refine ⟨a, rfl, hF, ?_⟩
  rcases q with ⟨L, h | ⟨o, h⟩, _⟩ | ⟨L, h | ⟨o, h⟩, _⟩ | ⟨L, h | ⟨o, h⟩, _⟩
  · exact .inr ⟨_, h, .inl ⟨L, rfl⟩⟩
  · exact .inl ⟨o, _, h⟩
  · exact .inr ⟨_, h, .inr (.inl ⟨L, rfl⟩)⟩
  · exact .inl ⟨o, _, h⟩
  · exact .inr ⟨_, h, .inr (.inr ⟨_, L, rfl⟩)⟩
  · exact .inl ⟨o, _, h⟩
theorem none_before (e : Ext H w H1 w1) (D : Addr) (h : H1 D = none) (hp : D ∉ w1.ph) : H D = none ∧ D ∉ w.ph := by
  have z : D ∉ w.ph := fun m => hp (e.mem m)
  exact ⟨e.gone h z, z⟩
theorem isDct_set {l : Nat} {kvs : List (D × D)} (hS : S[l]? = some (.dct kvs)) : isDct (S.set l (.fdct kvs)) (.loc l) = isDct S (.loc l) := by
  have hl := (List.getElem?_eq_some_iff.mp hS).1
  simp [isDct, lstOf, hS, List.getElem?_set_self hl]
theorem items_set {pv pu : Bool} {l : Nat} {kvs : List (D × D)} (hS : S[l]? = some (.dct kvs)) : itemsOf pv pu (S.set l (.fdct kvs)) (.loc l) = itemsOf pv pu S (.loc l) := by
  have hl := (List.getElem?_eq_some_iff.mp hS).1
  simp [itemsOf, viewOf, lstOf, dctOf, hS, List.getElem?_set_self hl]
def lcEv (pv pu m : Bool) (ts : List Nat) (f : fE) (fc : Slots → Sto → R Bool) (fe : fE) : fE := fun σ S => (f σ S).bind fun d S1 => match itemsOf pv pu S1 d with
  | none => .bad
  | some xs => (lcGo (lcStep ts σ fc fe) (isDct S1 d) d xs xs (lock S1 d) []).bind fun ys S2 => match unlock S1 S2 d with
    | some S3 => mkL m ys S3
    | none => .bad
theorem lc_key {tg iter : Expr} {pv pu m : Bool} {f : fE} {fc : Slots → Sto → R Bool} {fe : fE} {ts : List Nat} {W1 W2 : XK} (hd : Head X G W tg iter pv pu f) (i : Nat) (hi : pv = true → ∀ σ S d S', f σ S = .ok d S' → σ[i]? = some (some d) ∧ S' = S)
    {σ : L2.St} {H : Hp} {Q : VK} (h : tEV G W (lcEv pv pu m ts f fc fe) σ H Q) :
    (tLc (iEV G W pu f) (gEV G ts) (tTS G W1 fc) (tEV G W2 fe) ts σ H Q ∨ tLockE (tLc (iEV G W pu f) (gEV G ts) (tTS G W1 fc) (tEV G W2 fe) ts) σ H Q) ∨
      (pv = true ∧ (tLc (iVar G i) (gEV G ts) (tTS G W1 fc) (tEV G W2 fe) ts σ H Q ∨ tLockE (tLc (iVar G i) (gEV G ts) (tTS G W1 fc) (tEV G W2 fe) ts) σ H Q)) := by
  obtain ⟨w, σD, S, sl, st, q⟩ := h
  unfold lcEv at q
  cases e1 : f σD S with
  | bad => simp only [e1, R.bind] at q; exact q.elim
  | exc x S1 =>
    simp only [e1, R.bind] at q
    refine .inl (.inl ⟨w, σD, S, sl, st, ?_⟩)
    rw [e1]
    exact q
  | ok d S1 =>
    simp only [e1, R.bind] at q
    cases hx : itemsOf pv pu S1 d with
    | none => simp only [hx] at q; exact q.elim
    | some xs =>
      simp only [hx] at q
      cases hr : lcGo (lcStep ts σD fc fe) (isDct S1 d) d xs xs (lock S1 d) [] with
      | bad => simp only [hr] at q; exact q.elim
      | exc x S2 => exact absurd hr (lcGo_ne _ _ _ _ _)
      | ok ys S2 =>
        simp only [hr] at q
        cases hu : unlock S1 S2 d with
        | none => simp only [hu] at q; exact q.elim
        | some S3 =>
          simp only [hu] at q
          rcases how_locked S1 d with ⟨nv, nd, el, eu⟩ | ⟨l, kvs, rfl, hS, el, eu⟩ | ⟨kvs, rfl⟩
          · have := eu S2 S3 hu
            subst this
            rw [el] at hr
            refine .inl (.inl ⟨w, σD, S, sl, st, ?_⟩)
            rw [e1]
            refine ⟨nd, xs, itemsOf_pv nv hx, fun w1 H1 ex st1 J wk => lc_core wk st1 (sl.mono ex) hr fun w2 H2 D us ex2 st2 h0 hp0 hD hp hF rs => ?_⟩
            obtain ⟨z1, z2⟩ := none_before ex D h0 hp0
            exact GoodR.adopt q (ex.trans ex2) st2 z1 z2 hD hp hF rs
          · have pu1 : pu = true := by
              cases pu with
              | true => rfl
              | false =>
                simp [itemsOf, viewOf, lstOf, dctOf, hS, isVd] at hx
            obtain ⟨e2, e3⟩ := hd.pure pu1 σD S _ S1 e1
            subst e2
            have e3 := e3 l kvs rfl hS
            obtain ⟨hS2, e4⟩ := eu S2 S3 hu
            subst e4
            obtain ⟨a, u, hp, k⟩ := lk_place st hS
            rw [el] at hr
            refine .inl (.inr ⟨a, u, k.at_, k.mut, fun od => ⟨w, σD, _, sl.sees k.lock, st.lockL hp hS k, ?_⟩⟩)
            rw [e3]
            have hl := (List.getElem?_eq_some_iff.mp hS).1
            refine ⟨fun kvs' => by rw [List.getElem?_set_self hl]; simp, xs, ?_, ?_⟩
            · rw [items_set hS]; exact itemsOf_pv rfl hx
            · intro w1 H1 ex st1 J wk
              rw [isDct_set hS] at wk
              refine lc_core (Q := fun v H' => H' a = some (.frz od u) ∧ Q v (L2.upd H' a u)) wk st1 ((sl.sees k.lock).mono ex) hr fun w2 H2 D us ex2 st2 h0 hp0 hD hp2 hF rs => ?_
              have ex' := ex.trans ex2
              have h2 : H2 a = some (.frz od u) := ex'.frz a od u upd_same
              obtain ⟨z1, z2⟩ := none_before ex D h0 hp0
              have na : D ≠ a := fun z => by subst z; rw [upd_same] at z1; cases z1
              rw [upd_ne na] at z1
              exact ⟨h2, GoodR.adopt q (k.ext ex' h2) (st2.unlockL (ex'.ph l a hp) hS2 h2 k.nt k.nf) z1 z2 (by rw [upd_ne na]; exact hD) hp2 hF (Reps.sees (Lk.unlock h2) _ _ rs)⟩
          · have pv1 : pv = true := by
              cases pv with
              | true => rfl
              | false => simp [itemsOf, viewOf, lstOf, dctOf, isVd] at hx
            obtain ⟨hs1, e2⟩ := hi pv1 σD S _ S1 e1
            subst e2
            have ex0 : xs = kvs.map (·.1) := by
              simp [itemsOf, viewOf, lstOf, dctOf, isVd, pv1] at hx
              exact hx.symm
            subst ex0
            have : S3 = S2 := by
              have : some S2 = some S3 := hu
              cases this; rfl
            subst this
            obtain ⟨v, hv, rv⟩ := sl.at_ i _ hs1
            obtain ⟨a, rfl, hF, hz⟩ := lk_val rv
            rcases hz with ⟨o, u, hz⟩ | ⟨u, k⟩
            · refine .inr ⟨pv1, .inl ⟨w, σD, S1, _, _, kvs, sl, st, hs1, hv, rv, rfl, ⟨a, o, u, rfl, hz⟩, fun J wk => lc_core wk st sl hr fun w2 H2 D us ex2 st2 h0 hp0 hD hp hF rs => ?_⟩⟩
              exact GoodR.adopt q ex2 st2 h0 hp0 hD hp hF rs
            · refine .inr ⟨pv1, .inr ⟨a, u, k.at_, k.mut, fun od => ⟨w, σD, S1, _, _, kvs, sl.sees k.lock, st.lockV k hF, hs1, hv, Rep.sees k.lock _ _ rv, rfl, ⟨a, od, u, rfl, upd_same⟩, fun J wk => lc_core (Q := fun v H' => H' a = some (.frz od u) ∧ Q v (L2.upd H' a u)) wk (st.lockV k hF) (sl.sees k.lock) hr fun w2 H2 D us ex2 st2 h0 hp0 hD hp2 hF2 rs => ?_⟩⟩⟩
              have h2 : H2 a = some (.frz od u) := ex2.frz a od u upd_same
              have na : D ≠ a := fun z => by subst z; rw [upd_same] at h0; cases h0
              rw [upd_ne na] at h0
              exact ⟨h2, GoodR.adopt q (k.ext ex2 h2) (st2.unlockV (ex2.fz a hF).1 h2 k.nt k.nf) h0 hp0 (by rw [upd_ne na]; exact hD) hp2 hF2 (Reps.sees (Lk.unlock h2) _ _ rs)⟩
theorem sd_lc {elt tg iter : Expr} {ifs : List Expr} {scope : PySem.Scope} {own : List (Str × Nat)} {pos : Pos} {pv pu m : Bool} {f : fE} {fc : Slots → Sto → R Bool} {fe : fE} {ts : List Nat} {W1 W2 : XK}
    (hc : X.calm = true) (hN : X.N.Nodup) (hd : Head X G W tg iter pv pu f) (hb : BlkOk X.N X.env.scope scope own) (ho : own.map (fun x => x.2) = ts)
    (hg : ∀ (s : Shared) (H : Hp) (C : Addr) (cl : List (Str × Addr)) (fp : List Addr), PG (X.blk s H scope (compEnvC scope cl C X.env) fp) tg (gEV G ts))
    (ht : ∀ (s : Shared) (H : Hp) (C : Addr) (cl : List (Str × Addr)) (fp : List Addr), PTs (X.blk s H scope (compEnvC scope cl C X.env) fp) ifs (tTS G W1 fc))
    (he : ∀ (s : Shared) (H : Hp) (C : Addr) (cl : List (Str × Addr)) (fp : List Addr), PE (X.blk s H scope (compEnvC scope cl C X.env) fp) elt (tEV G W2 fe))
    (hs : ∀ x : Value, foldedSetIterable iter X.env x = Pure.pure x) :
    PE X (.ListComp elt [{ target := tg, iter := iter, ifs := ifs, is_async := 0 }] scope pos) (tEV G W (lcEv pv pu m ts f fc fe)) := by
  subst ho
  have A := pe_lc (pos := pos) hc hN hd.gen hb hg ht he hs
  by_cases hv : pv = true
  · obtain ⟨i, hi, hI⟩ := hd.var hv
    have C := pe_lc (pos := pos) hc hN hI hb hg ht he hs
    exact pe_imp (pe_or2 (pe_or2 A (pe_lock A)) (pe_or2 C (pe_lock C))) fun σ H Q h => (lc_key hd i (fun _ => hi) h).imp id fun z => z.2
  · exact pe_imp (pe_or2 A (pe_lock A)) fun σ H Q h => (lc_key hd 0 (fun z => absurd z hv) h).elim id fun z => absurd z.1 hv
end
end Lt
namespace Lt
open PySem L2 PySem.Spec PyProof.Rows
section
variable {G : AMap} {H H' H1 H2 : Hp} {w w1 w2 : Wd} {W : XK} {S S1 S2 : Sto} {X : Cx} {pos : Pos}
def GoodS (G : AMap) (H : Hp) (w : Wd) (W : XK) (r : O) (D : Ends) : Prop := match r with
  | .nx σD S => ∀ w2 σ H2, Ext H w H2 w2 → StoR G w2 S H2 → SlR G H2 w2 σD σ → D.nx σ H2
  | .rt d S => GoodV G H w d S D.rt
  | .ct σD S => ∀ w2 σ H2, Ext H w H2 w2 → StoR G w2 S H2 → SlR G H2 w2 σD σ → D.ct σ H2
  | .exc x S => GoodX G H w x S W
  | .bad => False
theorem GoodS.mono (e : Ext H w H1 w1) {r : O} {D : Ends} (h : GoodS G H w W r D) : GoodS G H1 w1 W r D := by
  cases r with
  | nx σD S => exact fun w2 σ H2 e2 => h w2 σ H2 (e.trans e2)
  | rt d S => exact fun w2 v H2 e2 => h w2 v H2 (e.trans e2)
  | ct σD S => exact fun w2 σ H2 e2 => h w2 σ H2 (e.trans e2)
  | exc x S => exact GoodX.mono e h
  | bad => exact h
abbrev fS := Slots → Sto → O
def tEX (G : AMap) (W : XK) (f : fS) : TS := fun D σ H => ∃ w σD S, SlR G H w σD σ ∧ StoR G w S H ∧ GoodS G H w W (f σD S) D
theorem ps_imp {st : Stmt} {t t' : TS} (h : PS X st t) (k : ∀ D σ H, t' D σ H → t D σ H) : PS X st t' := ⟨fun pins s σ H D I q => h.run pins s σ H D I (k D σ H q)⟩
theorem ps_or2 {st : Stmt} {t t' : TS} (h : PS X st t) (h' : PS X st t') : PS X st (fun D σ H => t D σ H ∨ t' D σ H) := ⟨fun pins s σ H D I q => q.elim (h.run pins s σ H D I) (h'.run pins s σ H D I)⟩
theorem pss_imp {st : List Stmt} {t t' : TS} (h : PSs X st t) (k : ∀ D σ H, t' D σ H → t D σ H) : PSs X st t' := ⟨fun pins s σ H D I q => h.run pins s σ H D I (k D σ H q)⟩
theorem sx_nil : PSs X [] (tEX G W fun σ S => .nx σ S) := pss_imp pss_nil fun D σ H ⟨w, σD, S, sl, st, q⟩ => q w σ H (Ext.refl _ _) st sl
theorem sx_cons {c : Stmt} {cs : List Stmt} {f g : fS} (h : PS X c (tEX G W f)) (h2 : PSs X cs (tEX G W g)) :
    PSs X (c :: cs) (tEX G W fun σ S => match f σ S with
      | .nx σ' S' => g σ' S'
      | o => o) := by
  refine pss_imp (pss_cons h h2) fun D σ H ⟨w, σD, S, sl, st, q⟩ => ⟨w, σD, S, sl, st, ?_⟩
  cases e : f σD S with
  | nx σ' S' =>
    simp only [e] at q
    exact fun w2 σ2 H2 ex st2 sl2 => ⟨w2, σ', S', sl2, st2, q.mono ex⟩
  | rt d S' => simp only [e] at q; exact q
  | ct σ' S' => simp only [e] at q; exact q
  | exc x S' => simp only [e] at q; exact q
  | bad => simp only [e] at q; exact q.elim
theorem sx_expr {e : Expr} {f : fE} (h : PE X e (tEV G W f)) (hs : swapsWith e none pos.line X.env = pure false) : PS X (.Expr e pos) (tEX G W fun σ S => match f σ S with
    | .ok _ S1 => .nx σ S1
    | .exc x S1 => .exc x S1
    | .bad => .bad) := by
  refine ps_imp (ps_expr h hs) fun D σ H ⟨w, σD, S, sl, st, q⟩ => ⟨w, σD, S, sl, st, ?_⟩
  cases e : f σD S with
  | ok d S1 => simp only [e] at q; exact fun w2 v H2 ex st2 _ => q w2 σ H2 ex st2 (sl.mono ex)
  | exc x S1 => simp only [e] at q; exact q
  | bad => simp only [e] at q; exact q.elim
theorem sx_ret {e : Expr} {f : fE} (h : PE X e (tEV G W f)) : PS X (.Return (some e) pos) (tEX G W fun σ S => match f σ S with
    | .ok d S1 => .rt d S1
    | .exc x S1 => .exc x S1
    | .bad => .bad) := by
  refine ps_imp (ps_ret h) fun D σ H ⟨w, σD, S, sl, st, q⟩ => ⟨w, σD, S, sl, st, ?_⟩
  cases e : f σD S with
  | ok d S1 => simp only [e] at q; exact q
  | exc x S1 => simp only [e] at q; exact q
  | bad => simp only [e] at q; exact q.elim
theorem sx_pass : PS X (.Pass pos) (tEX G W fun σ S => .nx σ S) := ps_imp ps_pass fun D σ H ⟨w, σD, S, sl, st, q⟩ => q w σ H (Ext.refl _ _) st sl
theorem sx_cont : PS X (.Continue pos) (tEX G W fun σ S => .ct σ S) := ps_imp ps_continue fun D σ H ⟨w, σD, S, sl, st, q⟩ => q w σ H (Ext.refl _ _) st sl
theorem sx_if {c : Expr} {a b : List Stmt} {f : fE} {g h : fS} (hc : PT X c (tEVT G W f)) (ha : PSs X a (tEX G W g)) (hb : PSs X b (tEX G W h)) : PS X (.If c a b pos) (tEX G W fun σ S => match f σ S with
    | .ok (.bl true) S1 => g σ S1
    | .ok (.bl false) S1 => h σ S1
    | .exc x S1 => .exc x S1
    | _ => .bad) := by
  refine ps_imp (ps_if hc ha hb) fun D σ H ⟨w, σD, S, sl, st, q⟩ => ⟨w, σD, S, sl, st, ?_⟩
  cases e : f σD S with
  | ok d S1 =>
    simp only [e] at q
    cases d with
    | bl b =>
      intro w2 H2 ex st2
      cases b with
      | true => rw [if_pos rfl]; exact ⟨w2, σD, S1, sl.mono ex, st2, GoodS.mono ex q⟩
      | false => rw [if_neg (by simp)]; exact ⟨w2, σD, S1, sl.mono ex, st2, GoodS.mono ex q⟩
    | _ => exact q.elim
  | exc x S1 => simp only [e] at q; exact q
  | bad => simp only [e] at q; exact q.elim
/-! ### assignments -/
def GoodP (G : AMap) (H : Hp) (w : Wd) (W : XK) (r : O) (Q : L2.St → Hp → Prop) : Prop := match r with
  | .nx σD S => ∀ w2 σ H2, Ext H w H2 w2 → StoR G w2 S H2 → SlR G H2 w2 σD σ → Q σ H2
  | .exc x S => GoodX G H w x S W
  | _ => False
theorem GoodP.mono (e : Ext H w H1 w1) {r : O} {Q : L2.St → Hp → Prop} (h : GoodP G H w W r Q) : GoodP G H1 w1 W r Q := by
  cases r with
  | nx σD S => exact fun w2 σ H2 e2 => h w2 σ H2 (e.trans e2)
  | exc x S => exact GoodX.mono e h
  | _ => exact h
/-- a target takes a value -/
def gST (G : AMap) (W : XK) (st : Slots → D → Sto → O) : TG := fun v σ H Q => ∃ w σD S d, SlR G H w σD σ ∧ StoR G w S H ∧ Rep G H w d v ∧ GoodP G H w W (st σD d S) Q
def plainStore (f : Slots → D → Sto → O) : Prop := ∀ σ d S, (∀ σ' S', f σ d S ≠ .ct σ' S') ∧ ∀ d' S', f σ d S ≠ .rt d' S'
theorem sx_asg {e tg : Expr} {f : fE} {g : Slots → D → Sto → O} (hp : plainStore g) (h : PE X e (tEV G W f)) (hg : PG X tg (gST G W g)) (h1 : swapsWithSole [tg] e pos.line X.env = pure false) (h2 : swappedStores [tg] e X.env = pure none)
    (h3 : List.map (fun x => x.snd) (assignEach [tg] X.env) = [assign tg X.env]) : PS X (.Assign [tg] e pos) (tEX G W fun σ S => match f σ S with
    | .ok d S1 => g σ d S1
    | .exc x S1 => .exc x S1
    | .bad => .bad) := by
  refine ps_imp (ps_asg h hg h1 h2 h3) fun D σ H ⟨w, σD, S, sl, st, q⟩ => ⟨w, σD, S, sl, st, ?_⟩
  cases e : f σD S with
  | ok d S1 =>
    simp only [e] at q
    intro w2 v H2 ex st2 r
    refine ⟨w2, σD, S1, d, sl.mono ex, st2, r, ?_⟩
    cases e2 : g σD d S1 with
    | nx σ' S' => rw [e2] at q; exact fun w3 σ3 H3 ex3 st3 sl3 => q w3 σ3 H3 (ex.trans ex3) st3 sl3
    | exc x S' => rw [e2] at q; exact GoodX.mono ex q
    | ct σ' S' => exact absurd e2 ((hp _ _ _).1 _ _)
    | rt d' S' => exact absurd e2 ((hp _ _ _).2 _ _)
    | bad => rw [e2] at q; exact q
  | exc x S1 => simp only [e] at q; exact q
  | bad => simp only [e] at q; exact q.elim
theorem sg_one {i : Nat} {x : Str} (hN : X.N.Nodup) (hi : X.N[i]? = some x) (hx : Loc X.env.scope x) (hf : X.fn x = true ∨ X.env.scope.names.lookup x = some .local) : PG X (.Name x pos) (gST G W fun σ d S => .nx (σ.set i (some d)) S) :=
  pg_imp (pg_name hN hi hx hf) fun v σ H Q ⟨w, σD, S, d, sl, st, r, q⟩ => q w _ H (Ext.refl _ _) st (sl.set r)
theorem sg_many (hc : X.calm = true) (hN : X.N.Nodup) {es : List Expr} {is : List Nat} {k : Nat} (h : namesAt X.N X.env.scope X.fn es is = true) : PG X (.Tuple es k pos) (gST G W fun σ d S => match d with
    | .tup xs => (match setAll is xs σ with
      | some σ' => .nx σ' S
      | none => .bad)
    | _ => .bad) := by
  obtain ⟨a, b⟩ := names_facts (env := X.env) h
  refine pg_imp (pg_tup hc (sgs_names (G := G) hN h) a b) fun v σ H Q ⟨w, σD, S, d, sl, st, r, q⟩ => ?_
  cases d with
  | tup xs =>
    dsimp only at q
    obtain ⟨c, us, rfl, rd, rs⟩ := r
    split at q
    · rename_i σ' e
      exact ⟨c, us, rfl, SqT.rd rd, by rw [Reps.length rs]; exact (setAll_len e).symm, w, S, xs, σD, σ', sl, st, rs, e, fun σ2 sl2 _ => q w σ2 H (Ext.refl _ _) st sl2⟩
    · exact q.elim
  | _ => exact q.elim
/-- x[k] = d: what is behind it -/
def rSub (G : AMap) (f : Sto → D → D → D → Option Sto) : TSet := fun o i v H Q => ∃ w S x k d S', StoR G w S H ∧ Rep G H w x o ∧ Rep G H w k i ∧ Rep G H w d v ∧ f S x k d = some S' ∧ ∀ w2 H2, Ext H w H2 w2 → StoR G w2 S' H2 → Q H2
theorem sg_sub {o i : Expr} {f g : fE} {h : Sto → D → D → D → Option Sto} (hs : PSet X (rSub G h)) (ho : PE X o (tEV G W f)) (hi : PE X i (tEV G W g))
    (ha : ∀ (v : Value), assign (o.Subscript i pos) X.env v = (do
                let ov ← holding [v] (eval o X.env)
                let iv ← holding [v, ov] (eval i X.env)
                standAt pos
                holding [v, ov, iv] (setItem ov iv v)
                release [v, ov, iv] [])) : PG X (.Subscript o i pos) (gST G W fun σ d S => match (f σ S).bind fun x S1 => (g σ S1).bind fun k S2 => (match h S2 x k d with
      | some S3 => .ok D.non S3
      | none => .bad) with
    | .ok _ S3 => .nx σ S3
    | .exc x S3 => .exc x S3
    | .bad => .bad) := by
  refine pg_imp (pg_sub ho hi hs ha) fun v σ H Q ⟨w, σD, S, d, sl, st, r, q⟩ => ⟨w, σD, S, sl, st, ?_⟩
  cases e1 : f σD S with
  | bad => simp only [e1, R.bind] at q; exact q.elim
  | exc x S1 => simp only [e1, R.bind] at q; exact q
  | ok x S1 =>
    simp only [e1, R.bind] at q
    intro w2 ov H2 ex st2 rx
    refine ⟨w2, σD, S1, sl.mono ex, st2, ?_⟩
    cases e2 : g σD S1 with
    | bad => simp only [e2, R.bind] at q; exact q.elim
    | exc x S2 => simp only [e2, R.bind] at q; exact GoodX.mono ex q
    | ok k S2 =>
      simp only [e2, R.bind] at q
      intro w3 iv H3 ex3 st3 rk
      cases e3 : h S2 x k d with
      | none => simp only [e3] at q; exact q.elim
      | some S3 =>
        simp only [e3] at q
        exact ⟨w3, S2, x, k, d, S3, st3, rx.mono ex3, rk, r.mono (ex.trans ex3), e3, fun w4 H4 ex4 st4 => q w4 σ H4 ((ex.trans ex3).trans ex4) st4 (sl.mono ((ex.trans ex3).trans ex4))⟩
/-- lists take items -/
def lstSet (S : Sto) (x k d : D) : Option Sto := match x with
  | .loc l => (match S[l]? with
    | some (.lst xs) => (match k with
      | .int j => (match atI xs.length j with
        | some n => some (S.set l (.lst (xs.set n d)))
        | none => none)
      | _ => none)
    | _ => none)
  | _ => none
theorem lstSet_ok : PSet X (rSub G lstSet) := by
  intro pins s σ H o i v ov iv u Q I ro ri rv ⟨w, S, x, k, d, S', st, rx, rk, rd, e, q⟩
  unfold lstSet at e
  split at e
  · rename_i l
    obtain ⟨a, rfl, hp⟩ := rx
    split at e
    · rename_i xs hx
      obtain ⟨ob, h1, h2⟩ := st.ob l a hp
      rw [hx] at h1
      obtain rfl : Ob.lst xs = ob := Option.some.inj h1
      obtain ⟨us, hu, rs⟩ := h2
      split at e
      · rename_i j
        cases rk
        split at e
        · rename_i n hn
          cases e
          refine set_list pins s σ H _ _ v ov iv u Q I ro ri rv ⟨a, us, j, n, rfl, rfl, hu, by rw [Reps.length rs]; exact hn, ?_⟩
          have ht : ∀ us', H a ≠ some (.tup us') := fun us' z => by rw [hu] at z; cases z
          have hf : ∀ x u, H a ≠ some (.frz x u) := fun x u z => by rw [hu] at z; cases z
          have ex := Ext.write (o := .lst (us.set n v)) st hp ht hf
          exact q w _ ex (st.write hp ht hf ⟨_, upd_same, Reps.set n (Reps.mono ex _ _ rs) (rd.mono ex)⟩)
        · cases e
      · cases e
    · cases e
  · cases e
/-! ### x += e -/
theorem augI_some {x y z : D} (h : augI x y = some z) : ∃ a b, x = .int a ∧ y = .int b ∧ z = .int (a + b) := by
  unfold augI at h
  split at h
  · cases h; exact ⟨_, _, rfl, rfl, rfl⟩
  · cases h
theorem paired_get : ∀ {xs : List V} {us : List Value} {i : Nat} {v : V}, Vals xs us → xs[i]? = some v → ∃ u, us[i]? = some u ∧ RelV v u
  | _, _, i, v, .nil, e => by simp at e
  | _, _, 0, v, .cons r t, e => by
    simp only [List.getElem?_cons_zero, Option.some.injEq] at e
    subst e
    exact ⟨_, rfl, r⟩
  | _, _, i + 1, v, .cons r t, e => by
    obtain ⟨u, h1, h2⟩ := paired_get (i := i) t (by simpa using e)
    exact ⟨u, by simpa using h1, h2⟩
theorem sx_augN {i : Nat} {x : Str} {e : Expr} {p : Pos} {f : fE} (hN : X.N.Nodup) (hi : X.N[i]? = some x) (hx : Loc X.env.scope x) (hf : X.fn x = true ∨ X.env.scope.names.lookup x = some .local) (h : PE X e (tEV G W f)) :
    PS X (.AugAssign (.Name x p) .Add e pos) (tEX G W fun σ S => match (match σ[i]? with
      | some (some d) => R.ok d S
      | _ => .bad).bind fun x S1 => (f σ S1).bind fun y S2 => (match augI x y with
        | some z => R.ok z S2
        | none => .bad) with
      | .ok d S1 => .nx (σ.set i (some d)) S1
      | .exc x S1 => .exc x S1
      | .bad => .bad) := by
  refine ps_imp (ps_aug hN hi hx h ip_add hf) fun D σ H ⟨w, σD, S, sl, st, q⟩ => ?_
  cases hd : σD[i]? with
  | none => simp only [hd, R.bind] at q; exact q.elim
  | some od =>
    cases od with
    | none => simp only [hd, R.bind] at q; exact q.elim
    | some d =>
      simp only [hd, R.bind] at q
      obtain ⟨v, hv, rv⟩ := sl.at_ i d hd
      refine ⟨v, hv, w, σD, S, sl, st, ?_⟩
      cases e1 : f σD S with
      | bad => simp only [e1] at q; exact q.elim
      | exc x S1 => simp only [e1] at q; exact q
      | ok y S1 =>
        simp only [e1] at q
        intro w2 u H2 ex st2 ry
        cases h3 : augI d y with
        | none => simp only [h3] at q; exact q.elim
        | some z =>
          simp only [h3] at q
          obtain ⟨a, b, rfl, rfl, rfl⟩ := augI_some h3
          cases rv; cases ry
          exact ⟨_, _, rfl, rfl, q w2 _ H2 ex st2 ((sl.mono ex).set rfl)⟩
/-- a list's item, before x[k] += .. -/
def rAug (G : AMap) : V → V → Hp → VK → Prop := fun o i H Q => ∃ w S x k d, StoR G w S H ∧ Rep G H w x o ∧ Rep G H w k i ∧ augGet S x k = some d ∧ GoodV G H w d S Q
theorem augGet_ok : PGet X (rAug G) := by
  intro pins s σ H o i ov iv Q I ro ri ⟨w, S, x, k, d, st, rx, rk, e, q⟩
  unfold augGet at e
  split at e
  · rename_i l j
    obtain ⟨a, rfl, hp⟩ := rx
    cases rk
    split at e
    · rename_i xs hx
      split at e
      · rename_i hj
        obtain ⟨ob, h1, h2⟩ := st.ob l a hp
        rw [hx] at h1
        obtain rfl : Ob.lst xs = ob := Option.some.inj h1
        obtain ⟨us, hu, rs⟩ := h2
        obtain ⟨v, hv, rv⟩ := Reps.get rs e
        obtain ⟨its, vs, _, hl⟩ := lst_isL I (.inl hu)
        obtain ⟨tk, rfl⟩ := ri
        cases ro
        obtain ⟨u, hu2, ru⟩ := paired_get vs hv
        exact PySem.wpAny_getItem_list hl hj.1 (by omega) (by simpa using hu2) ⟨v, H, I, ru, GoodV.here q st rv⟩
      · cases e
    · cases e
  · cases e
theorem sx_augS {o i e : Expr} {f g h : fE} {sf : Sto → D → D → D → Option Sto} {tp : Pos} (hs : PSet X (rSub G sf)) (ho : PE X o (tEV G W f)) (hi : PE X i (tEV G W g)) (he : PE X e (tEV G W h)) 
    (ha : ∀ ov iv new : Value, augStore i ov iv new = (do
                      holding [new, ov, iv] (setItem ov iv new)
                      release [new, ov, iv] []
                      pure Flow.next)) :
    PS X (.AugAssign (.Subscript o i tp) .Add e pos) (tEX G W fun σ S => match (f σ S).bind fun x S1 => (g σ S1).bind fun k S2 => (match augGet S2 x k with
        | some u => (h σ S2).bind fun y S3 => (match augI u y with
          | some z => (match sf S3 x k z with
            | some S4 => .ok D.non S4
            | none => .bad)
          | none => .bad)
        | none => .bad) with
      | .ok _ S1 => .nx σ S1
      | .exc x S1 => .exc x S1
      | .bad => .bad) := by
  refine ps_imp (ps_augS ho hi (augGet_ok (G := G)) he ip_add hs ha) fun D σ H ⟨w, σD, S, sl, st, q⟩ => ⟨w, σD, S, sl, st, ?_⟩
  cases e1 : f σD S with
  | bad => simp only [e1, R.bind] at q; exact q.elim
  | exc x S1 => simp only [e1, R.bind] at q; exact q
  | ok x S1 =>
    simp only [e1, R.bind] at q
    intro w2 ov H2 ex st2 rx
    refine ⟨w2, σD, S1, sl.mono ex, st2, ?_⟩
    cases e2 : g σD S1 with
    | bad => simp only [e2, R.bind] at q; exact q.elim
    | exc x S2 => simp only [e2, R.bind] at q; exact GoodX.mono ex q
    | ok k S2 =>
      simp only [e2, R.bind] at q
      intro w3 iv H3 ex3 st3 rk
      cases e3 : augGet S2 x k with
      | none => simp only [e3] at q; exact q.elim
      | some d =>
        simp only [e3] at q
        refine ⟨w3, S2, x, k, d, st3, rx.mono ex3, rk, e3, fun w4 u H4 ex4 st4 ru => ?_⟩
        have ex34 := (ex.trans ex3).trans ex4
        refine ⟨w4, σD, S2, sl.mono ex34, st4, ?_⟩
        cases e4 : h σD S2 with
        | bad => simp only [e4, R.bind] at q; exact q.elim
        | exc x S3 => simp only [e4, R.bind] at q; exact GoodX.mono ex34 q
        | ok y S3 =>
          simp only [e4, R.bind] at q
          intro w5 yv H5 ex5 st5 ry
          cases e5 : augI d y with
          | none => simp only [e5] at q; exact q.elim
          | some z =>
            simp only [e5] at q
            obtain ⟨a, b, rfl, rfl, rfl⟩ := augI_some e5
            cases ru; cases ry
            refine ⟨_, _, rfl, rfl, ?_⟩
            cases e6 : sf S3 x k (.int (a + b)) with
            | none => simp only [e6] at q; exact q.elim
            | some S4 =>
              simp only [e6] at q
              exact ⟨w5, S3, x, k, .int (a + b), S4, st5, (rx.mono ex3).mono (ex4.trans ex5), rk.mono (ex4.trans ex5), rfl, e6, fun w6 H6 ex6 st6 => q w6 σ H6 ((ex34.trans ex5).trans ex6) st6 (sl.mono ((ex34.trans ex5).trans ex6))⟩
end
end Lt
namespace Lt
open PySem L2 PySem.Spec PyProof.Rows
section
variable {G : AMap} {H H' H1 H2 : Hp} {w w1 w2 : Wd} {W : XK} {S S1 S2 : Sto} {X : Cx} {pos : Pos}
theorem fo_core {J : It} {k : Bool} {d : D} {xs : List D} {ts : List Nat} {σD : Slots} {σ : L2.St} {gb : fS} {r : O} {D : Ends}
    (wk : Wlk G J k d xs H1 w1) (st1 : StoR G w1 S1 H1) (sl : SlR G H1 w1 σD σ) (e : foGo ts gb k d xs xs σD S1 = r) (q : GoodS G H1 w1 W r D) :
    ∃ W' : Nat → Nat → L2.St → Hp → Prop, (∃ m, W' 0 m σ H1) ∧ ∀ (i m : Nat) (σ : L2.St) (H : Hp), W' i m σ H →
      (J.stop i H ∧ D.nx σ H) ∨ (J.go i H ∧ ∃ N : L2.St → Hp → Prop, (∀ σ' H', N σ' H' → ∃ m', m' < m ∧ W' (i + 1) m' σ' H') ∧ ∀ (x : V) (H' : Hp), J.yld i H x H' →
        gEV G ts x σ H' fun σ2 H2 => tEX G W gb { nx := N, rt := D.rt, bk := D.nx, ct := N } σ2 H2) := by
  let Inv (i : Nat) (σ : L2.St) (H : Hp) : Prop := ∃ w S σD, Ext H1 w1 H w ∧ StoR G w S H ∧ SlR G H w σD σ ∧ foGo ts gb k d xs (xs.drop i) σD S = r
  refine ⟨fun i m σ H => i + m = xs.length ∧ Inv i σ H, ⟨xs.length, by omega, w1, S1, σD, Ext.refl _ _, st1, sl, e⟩, ?_⟩
  rintro i m σ H ⟨him, w, S, σD, ex, st, sl, e⟩
  by_cases hi : i < xs.length
  · right
    rw [List.drop_eq_getElem_cons hi] at e
    simp only [foGo] at e
    split at e
    · rename_i hst
      obtain ⟨go, yl⟩ := (wk i w H S ex st hst).2 xs[i] (List.getElem?_eq_getElem hi)
      refine ⟨go, fun σ' H' => Inv (i + 1) σ' H', fun σ' H' h => ⟨m - 1, by omega, by omega, h⟩, fun x H' hy => ?_⟩
      obtain ⟨w', e1, st1', rx⟩ := yl x H' hy
      have exa := ex.trans e1
      cases hb : bindT ts xs[i] σD with
      | none => simp only [hb] at e; rw [← e] at q; exact q.elim
      | some σ' =>
        simp only [hb] at e
        refine ⟨w', S, xs[i], σD, σ', sl.mono e1, st1', rx, hb, fun σ2 sl2 _ => ⟨w', σ', S, sl2, st1', ?_⟩⟩
        cases hg : gb σ' S with
        | nx σ3 S3 =>
          simp only [hg] at e
          exact fun w2 σ4 H2 ex2 st2 sl4 => ⟨w2, S3, σ3, exa.trans ex2, st2, sl4, e⟩
        | ct σ3 S3 =>
          simp only [hg] at e
          exact fun w2 σ4 H2 ex2 st2 sl4 => ⟨w2, S3, σ3, exa.trans ex2, st2, sl4, e⟩
        | rt v S3 =>
          simp only [hg] at e
          rw [← e] at q
          exact fun w2 u H2 ex2 st2 => q w2 u H2 (exa.trans ex2) st2
        | exc y S3 =>
          simp only [hg] at e
          rw [← e] at q
          exact GoodX.mono exa q
        | bad =>
          simp only [hg] at e
          rw [← e] at q
          exact q.elim
    · rw [← e] at q; exact q.elim
  · left
    have hl : xs.length ≤ i := by omega
    rw [List.drop_eq_nil_of_le hl] at e
    simp only [foGo] at e
    split at e
    · rename_i hst
      rw [← e] at q
      exact ⟨(wk i w H S ex st hst).1 hl, q w σ H ex st sl⟩
    · rw [← e] at q; exact q.elim
def foEv (pv pu : Bool) (ts : List Nat) (f : fE) (gb : fS) : fS := fun σ S => match f σ S with
  | .ok d S1 => (match itemsOf pv pu S1 d with
    | some xs => unO S1 d (foGo ts gb (isDct S1 d) d xs xs σ (lock S1 d))
    | none => .bad)
  | .exc x S1 => .exc x S1
  | .bad => .bad
/-- the ends of a walk, with the dict locked -/
def lkE (D : Ends) (a : Addr) (u : HO) (od : Obj) : Ends :=
  ⟨fun σ' H' => H' a = some (.frz od u) ∧ D.nx σ' (L2.upd H' a u), fun v H' => H' a = some (.frz od u) ∧ D.rt v (L2.upd H' a u), fun σ' H' => H' a = some (.frz od u) ∧ D.bk σ' (L2.upd H' a u), fun σ' H' => H' a = some (.frz od u) ∧ D.ct σ' (L2.upd H' a u)⟩
theorem unO_plain {d : D} {r : O} {D : Ends} (eu : ∀ S2 S3, unlock S1 S2 d = some S3 → S3 = S2) (q : GoodS G H w W (unO S1 d r) D) : GoodS G H w W r D := by
  cases r with
  | nx σ S2 =>
    simp only [unO] at q
    cases h : unlock S1 S2 d with
    | none => rw [h] at q; exact q.elim
    | some S3 => rw [h] at q; rw [eu _ _ h] at q; exact q
  | rt v S2 =>
    simp only [unO] at q
    cases h : unlock S1 S2 d with
    | none => rw [h] at q; exact q.elim
    | some S3 => rw [h] at q; rw [eu _ _ h] at q; exact q
  | exc x S2 => exact q
  | _ => exact q.elim
theorem fo_key {tg iter : Expr} {pv pu : Bool} {f : fE} {gb : fS} {ts : List Nat} (hd : Head X G W tg iter pv pu f) (i : Nat) (hi : pv = true → ∀ σ S d S', f σ S = .ok d S' → σ[i]? = some (some d) ∧ S' = S)
    {σ : L2.St} {H : Hp} {D : Ends} (h : tEX G W (foEv pv pu ts f gb) D σ H) :
    (tFor (iEV G W pu f) (gEV G ts) (tEX G W gb) D σ H ∨ tLock (tFor (iEV G W pu f) (gEV G ts) (tEX G W gb)) D σ H) ∨
      (pv = true ∧ (tFor (iVar G i) (gEV G ts) (tEX G W gb) D σ H ∨ tLock (tFor (iVar G i) (gEV G ts) (tEX G W gb)) D σ H)) := by
  obtain ⟨w, σD, S, sl, st, q⟩ := h
  unfold foEv at q
  cases e1 : f σD S with
  | bad => simp only [e1] at q; exact q.elim
  | exc x S1 =>
    simp only [e1] at q
    refine .inl (.inl ⟨w, σD, S, sl, st, ?_⟩)
    rw [e1]
    exact q
  | ok d S1 =>
    simp only [e1] at q
    cases hx : itemsOf pv pu S1 d with
    | none => simp only [hx] at q; exact q.elim
    | some xs =>
      simp only [hx] at q
      rcases how_locked S1 d with ⟨nv, nd, el, eu⟩ | ⟨l, kvs, rfl, hS, el, eu⟩ | ⟨kvs, rfl⟩
      · rw [el] at q
        refine .inl (.inl ⟨w, σD, S, sl, st, ?_⟩)
        rw [e1]
        exact ⟨nd, xs, itemsOf_pv nv hx, fun w1 H1 ex st1 J wk => fo_core wk st1 (sl.mono ex) rfl ((unO_plain eu q).mono ex)⟩
      · have pu1 : pu = true := by
          cases pu with
          | true => rfl
          | false =>
            simp [itemsOf, viewOf, lstOf, dctOf, hS, isVd] at hx
        obtain ⟨e2, e3⟩ := hd.pure pu1 σD S _ S1 e1
        subst e2
        have e3 := e3 l kvs rfl hS
        obtain ⟨a, u, hp, k⟩ := lk_place st hS
        rw [el] at q
        refine .inl (.inr ⟨a, u, k.at_, k.mut, fun od => ⟨w, σD, _, sl.sees k.lock, st.lockL hp hS k, ?_⟩⟩)
        rw [e3]
        have hl := (List.getElem?_eq_some_iff.mp hS).1
        refine ⟨fun kvs' => by rw [List.getElem?_set_self hl]; simp, xs, ?_, ?_⟩
        · rw [items_set hS]; exact itemsOf_pv rfl hx
        · intro w1 H1 ex st1 J wk
          rw [isDct_set hS] at wk
          refine fo_core (D := lkE D a u od) wk st1 ((sl.sees k.lock).mono ex) rfl (GoodS.mono ex ?_)
          cases hr : foGo ts gb (isDct S1 (.loc l)) (.loc l) xs xs σD (S1.set l (.fdct kvs)) with
          | nx σ3 S2 =>
            simp only [hr, unO] at q
            cases hu : unlock S1 S2 (.loc l) with
            | none => simp only [hu] at q; exact q.elim
            | some S3 =>
              simp only [hu] at q
              obtain ⟨hS2, e4⟩ := eu S2 S3 hu
              subst e4
              intro w2 σ4 H2 ex2 st2 sl2
              have h2 : H2 a = some (.frz od u) := ex2.frz a od u upd_same
              exact ⟨h2, q w2 σ4 _ (k.ext ex2 h2) (st2.unlockL (ex2.ph l a hp) hS2 h2 k.nt k.nf) (sl2.sees (Lk.unlock h2))⟩
          | rt v S2 =>
            simp only [hr, unO] at q
            cases hu : unlock S1 S2 (.loc l) with
            | none => simp only [hu] at q; exact q.elim
            | some S3 =>
              simp only [hu] at q
              obtain ⟨hS2, e4⟩ := eu S2 S3 hu
              subst e4
              intro w2 u2 H2 ex2 st2 r2
              have h2 : H2 a = some (.frz od u) := ex2.frz a od u upd_same
              exact ⟨h2, q w2 u2 _ (k.ext ex2 h2) (st2.unlockL (ex2.ph l a hp) hS2 h2 k.nt k.nf) (Rep.sees (Lk.unlock h2) _ _ r2)⟩
          | exc x S2 => simp only [hr, unO] at q; exact GoodX.mono (k.extL (.inl (List.mem_of_getElem? hp))) q
          | ct σ3 S2 => simp only [hr, unO] at q; exact q.elim
          | bad => simp only [hr, unO] at q; exact q.elim
      · have pv1 : pv = true := by
          cases pv with
          | true => rfl
          | false => simp [itemsOf, viewOf, lstOf, dctOf, isVd] at hx
        obtain ⟨hs1, e2⟩ := hi pv1 σD S _ S1 e1
        subst e2
        have ex0 : xs = kvs.map (·.1) := by
          simp [itemsOf, viewOf, lstOf, dctOf, isVd, pv1] at hx
          exact hx.symm
        subst ex0
        have q := unO_plain (fun S2 S3 e => by
          have e : some S2 = some S3 := e
          cases e; rfl) q
        obtain ⟨v, hv, rv⟩ := sl.at_ i _ hs1
        obtain ⟨a, rfl, hF, hz⟩ := lk_val rv
        rcases hz with ⟨o, u, hz⟩ | ⟨u, k⟩
        · exact .inr ⟨pv1, .inl ⟨w, σD, S1, _, _, kvs, sl, st, hs1, hv, rv, rfl, ⟨a, o, u, rfl, hz⟩, fun J wk => fo_core wk st sl rfl q⟩⟩
        · refine .inr ⟨pv1, .inr ⟨a, u, k.at_, k.mut, fun od => ⟨w, σD, S1, _, _, kvs, sl.sees k.lock, st.lockV k hF, hs1, hv, Rep.sees k.lock _ _ rv, rfl, ⟨a, od, u, rfl, upd_same⟩, fun J wk => fo_core (D := lkE D a u od) wk (st.lockV k hF) (sl.sees k.lock) rfl ?_⟩⟩⟩
          have el : lock S1 (.vd kvs) = S1 := rfl
          rw [el] at q
          cases hr : foGo ts gb (isDct S1 (.vd kvs)) (.vd kvs) (kvs.map (·.1)) (kvs.map (·.1)) σD S1 with
          | nx σ3 S2 =>
            rw [hr] at q
            intro w2 σ4 H2 ex2 st2 sl2
            have h2 : H2 a = some (.frz od u) := ex2.frz a od u upd_same
            exact ⟨h2, q w2 σ4 _ (k.ext ex2 h2) (st2.unlockV (ex2.fz a hF).1 h2 k.nt k.nf) (sl2.sees (Lk.unlock h2))⟩
          | rt v S2 =>
            rw [hr] at q
            intro w2 u2 H2 ex2 st2 r2
            have h2 : H2 a = some (.frz od u) := ex2.frz a od u upd_same
            exact ⟨h2, q w2 u2 _ (k.ext ex2 h2) (st2.unlockV (ex2.fz a hF).1 h2 k.nt k.nf) (Rep.sees (Lk.unlock h2) _ _ r2)⟩
          | exc x S2 => rw [hr] at q; exact GoodX.mono (k.extL (.inr hF)) q
          | ct σ3 S2 =>
            rw [hr] at q
            intro w2 σ4 H2 ex2 st2 sl2
            have h2 : H2 a = some (.frz od u) := ex2.frz a od u upd_same
            exact ⟨h2, q w2 σ4 _ (k.ext ex2 h2) (st2.unlockV (ex2.fz a hF).1 h2 k.nt k.nf) (sl2.sees (Lk.unlock h2))⟩
          | bad => rw [hr] at q; exact q.elim
theorem sx_for {tg iter : Expr} {pv pu : Bool} {f : fE} {gb : fS} {ts : List Nat} {body : List Stmt} (hc : X.calm = true) (hp : PassesOwn (model X.prog X.w) X.A X.env X.xe) (hd : Head X G W tg iter pv pu f) (hg : PG X tg (gEV G ts)) (hb : PSs X body (tEX G W gb)) (hs : ∀ x : Value, foldedSetIterable iter X.env x = Pure.pure x) :
    PS X (.For tg iter body [] pos) (tEX G W (foEv pv pu ts f gb)) := by
  have A := ps_for (pos := pos) hp hc hd.gen hg hb hs
  by_cases hv : pv = true
  · obtain ⟨i, hi, hI⟩ := hd.var hv
    have C := ps_for (pos := pos) hp hc hI hg hb hs
    exact ps_imp (ps_or2 (ps_or2 A (ps_lock A)) (ps_or2 C (ps_lock C))) fun D σ H h => (fo_key hd i (fun _ => hi) h).imp id fun z => z.2
  · exact ps_imp (ps_or2 A (ps_lock A)) fun D σ H h => (fo_key hd 0 (fun z => absurd z hv) h).elim id fun z => absurd z.1 hv
/-- a comprehension given to a name on its own line -/
theorem sx_lc {i : Nat} {y : Str} {py spos : Pos} {elt tg iter : Expr} {ifs : List Expr} {scope : PySem.Scope} {own : List (Str × Nat)} {pv pu m : Bool} {f : fE} {fc : Slots → Sto → R Bool} {fe : fE} {ts : List Nat} {W1 W2 : XK}
    (hc : X.calm = true) (hN : X.N.Nodup) (hi : X.N[i]? = some y) (hl : X.env.scope.names.lookup y = some .local) (hsw : swapsWith (elt.ListComp [{ target := tg, iter := iter, ifs := ifs, is_async := 0 }] scope pos) (some (.Name y py)) spos.line X.env = Pure.pure true)
    (hd : Head X G W tg iter pv pu f) (hb : BlkOk X.N X.env.scope scope own) (ho : own.map (fun x => x.2) = ts)
    (hg : ∀ (s : Shared) (H : Hp) (C : Addr) (cl : List (Str × Addr)) (fp : List Addr), PG (X.blk s H scope (compEnvC scope cl C X.env) fp) tg (gEV G ts))
    (ht : ∀ (s : Shared) (H : Hp) (C : Addr) (cl : List (Str × Addr)) (fp : List Addr), PTs (X.blk s H scope (compEnvC scope cl C X.env) fp) ifs (tTS G W1 fc))
    (he : ∀ (s : Shared) (H : Hp) (C : Addr) (cl : List (Str × Addr)) (fp : List Addr), PE (X.blk s H scope (compEnvC scope cl C X.env) fp) elt (tEV G W2 fe))
    (hs : ∀ x : Value, foldedSetIterable iter X.env x = Pure.pure x) :
    PS X (.Assign [.Name y py] (.ListComp elt [{ target := tg, iter := iter, ifs := ifs, is_async := 0 }] scope pos) spos) (tEX G W fun σ S => match lcEv pv pu m ts f fc fe σ S with
      | .ok d S1 => .nx (σ.set i (some d)) S1
      | .exc x S1 => .exc x S1
      | .bad => .bad) := by
  subst ho
  have key : ∀ (j : Nat), (pv = true → ∀ σ S d S', f σ S = .ok d S' → σ[j]? = some (some d) ∧ S' = S) → ∀ D σ H, tEX G W (fun σ S => match lcEv pv pu m (own.map (fun x => x.2)) f fc fe σ S with
      | .ok d S1 => .nx (σ.set i (some d)) S1
      | .exc x S1 => .exc x S1
      | .bad => .bad) D σ H → tEV G W (lcEv pv pu m (own.map (fun x => x.2)) f fc fe) σ H fun v H1 => D.nx (σ.set i (some v)) H1 := by
    intro j _ D σ H ⟨w, σD, S, sl, st, q⟩
    refine ⟨w, σD, S, sl, st, ?_⟩
    cases e : lcEv pv pu m (own.map (fun x => x.2)) f fc fe σD S with
    | ok d S1 => simp only [e] at q; exact fun w2 v H2 ex st2 r => q w2 _ H2 ex st2 ((sl.mono ex).set r)
    | exc x S1 => simp only [e] at q; exact q
    | bad => simp only [e] at q; exact q.elim
  have A := ps_setLc (pos := pos) hc hN hi hl hsw hd.gen hb hg ht he hs
  by_cases hv : pv = true
  · obtain ⟨j, hj, hI⟩ := hd.var hv
    have C := ps_setLc (pos := pos) hc hN hi hl hsw hI hb hg ht he hs
    exact ps_imp (ps_or2 (ps_or2 A (ps_lock A)) (ps_or2 C (ps_lock C))) fun D σ H h => (lc_key hd j (fun _ => hj) (key j (fun _ => hj) D σ H h)).imp id fun z => z.2
  · exact ps_imp (ps_or2 A (ps_lock A)) fun D σ H h => (lc_key hd 0 (fun z => absurd z hv) (key 0 (fun z => absurd z hv) D σ H h)).elim id fun z => absurd z.1 hv
/-! ### while -/
theorem sx_while {c : Expr} {body : List Stmt} {f : fE} {gb : fS} (n : Nat) (hp : PassesOwn (model X.prog X.w) X.A X.env X.xe) (hc : PT X c (tEVT G W f)) (hb : PSs X body (tEX G W gb)) :
    PS X (.While c body [] pos) (tEX G W fun σ S => whGo (fun σ' S1 => (f σ' S1).bind fun x S2 => match x with
      | .bl k => .ok k S2
      | _ => .bad) gb n σ S) := by
  refine ps_imp (ps_while hp hc hb) fun D σ H ⟨w, σD, S, sl, st, q⟩ => ?_
  refine ⟨fun m σ H => ∃ w σD S, SlR G H w σD σ ∧ StoR G w S H ∧ GoodS G H w W (whGo (fun σ' S1 => (f σ' S1).bind fun x S2 => match x with
      | .bl k => .ok k S2
      | _ => .bad) gb m σD S) D, ⟨n, w, σD, S, sl, st, q⟩, ?_⟩
  rintro m σ H ⟨w, σD, S, sl, st, q⟩
  cases m with
  | zero => exact q.elim
  | succ m =>
    refine ⟨w, σD, S, sl, st, ?_⟩
    simp only [whGo] at q
    cases e : f σD S with
    | bad => simp only [e, R.bind] at q; exact q.elim
    | exc x S1 => simp only [e, R.bind] at q; exact q
    | ok d S1 =>
      simp only [e, R.bind] at q
      cases d with
      | bl b =>
        intro w2 H2 ex st2
        cases b with
        | false => rw [if_neg (by simp)]; exact q w2 σ H2 ex st2 (sl.mono ex)
        | true =>
          rw [if_pos rfl]
          refine ⟨fun σ' H' => ∃ w σD S, SlR G H' w σD σ' ∧ StoR G w S H' ∧ GoodS G H' w W (whGo (fun σ' S1 => (f σ' S1).bind fun x S2 => match x with
            | .bl k => .ok k S2
            | _ => .bad) gb m σD S) D, fun σ' H' h => ⟨m, Nat.lt_succ_self m, h⟩, w2, σD, S1, sl.mono ex, st2, ?_⟩
          simp only at q
          cases e2 : gb σD S1 with
          | nx σ3 S3 => simp only [e2] at q; exact fun w3 σ4 H3 ex3 st3 sl3 => ⟨w3, σ3, S3, sl3, st3, q.mono (ex.trans ex3)⟩
          | ct σ3 S3 => simp only [e2] at q; exact fun w3 σ4 H3 ex3 st3 sl3 => ⟨w3, σ3, S3, sl3, st3, q.mono (ex.trans ex3)⟩
          | rt v S3 => simp only [e2] at q; exact fun w3 u H3 ex3 => q w3 u H3 (ex.trans ex3)
          | exc y S3 => simp only [e2] at q; exact GoodX.mono ex q
          | bad => simp only [e2] at q; exact q.elim
      | _ => exact q.elim
end
end Lt
namespace Lt
open PySem L2 PySem.Spec PyProof.Rows
section
variable {G : AMap} {H H' H1 H2 : Hp} {w w1 w2 : Wd} {W : XK} {S S1 S2 : Sto} {X : Cx}
variable {pins : List (Addr × Obj)} {σ : L2.St} {s : Shared}
theorem dhas_cons (k : D) (p : D × D) (r : List (D × D)) : dhas (p :: r) k = (decide (p.1 = k) || dhas r k) := by
  unfold dhas dget
  rw [List.find?_cons]
  by_cases h : p.1 = k
  · simp [h]
  · simp [h]
theorem repT_any : ∀ {kvs : List (D × D)} {L : List (List L2.Key × V)} (ks : List L2.Key), RepT G H w kvs L → (L.any fun kv => decide (kv.1 = ks)) = dhas kvs (.tup (ks.map kD))
  | [], _, ks, h => by
    have h : _ = [] := h
    subst h; rfl
  | (k, d) :: r, _, ks, ⟨ks', u, L', e1, e2, a, b⟩ => by
    subst e1 e2
    rw [List.any_cons, dhas_cons, repT_any ks b]
    congr 1
    by_cases h : ks' = ks
    · simp [h]
    · have : D.tup (ks'.map kD) ≠ D.tup (ks.map kD) := fun z => h (kDs_inj (D.tup.inj z))
      simp [h, this]
theorem repK_any : ∀ {kvs : List (D × D)} {L : List (L2.Key × V)} (k : L2.Key), RepK G H w kvs L → (L.any fun kv => decide (kv.1 = k)) = dhas kvs (kD k)
  | [], _, ks, h => by
    have h : _ = [] := h
    subst h; rfl
  | (k', d) :: r, _, ks, ⟨ks', u, L', e1, e2, a, b⟩ => by
    subst e1 e2
    rw [List.any_cons, dhas_cons, repK_any ks b]
    congr 1
    by_cases h : ks' = ks
    · simp [h]
    · have : kD ks' ≠ kD ks := fun z => h (kD_inj z)
      simp [h, this]
theorem repT_app : ∀ {kvs : List (D × D)} {L : List (List L2.Key × V)} {ks : List L2.Key} {d : D} {v : V}, RepT G H w kvs L → Rep G H w d v → RepT G H w (kvs ++ [(.tup (ks.map kD), d)]) (L ++ [(ks, v)])
  | [], _, ks, d, v, h, r => by
    have h : _ = [] := h
    subst h
    exact ⟨ks, v, [], rfl, rfl, r, rfl⟩
  | (k, d') :: r, _, ks, d, v, ⟨ks', u, L', e1, e2, a, b⟩, rv => by
    subst e1 e2
    exact ⟨ks', u, _, rfl, rfl, a, repT_app b rv⟩
theorem repK_app : ∀ {kvs : List (D × D)} {L : List (L2.Key × V)} {ks : L2.Key} {d : D} {v : V}, RepK G H w kvs L → Rep G H w d v → RepK G H w (kvs ++ [(kD ks, d)]) (L ++ [(ks, v)])
  | [], _, ks, d, v, h, r => by
    have h : _ = [] := h
    subst h
    exact ⟨ks, v, [], rfl, rfl, r, rfl⟩
  | (k, d') :: r, _, ks, d, v, ⟨ks', u, L', e1, e2, a, b⟩, rv => by
    subst e1 e2
    exact ⟨ks', u, _, rfl, rfl, a, repK_app b rv⟩
theorem repT_map : ∀ {kvs : List (D × D)} {L : List (List L2.Key × V)} {ks : List L2.Key} {d : D} {v : V}, RepT G H w kvs L → Rep G H w d v →
    RepT G H w (kvs.map fun p => if p.1 = .tup (ks.map kD) then (p.1, d) else p) (L.map fun kv => if kv.1 = ks then (kv.1, v) else kv)
  | [], _, ks, d, v, h, r => by
    have h : _ = [] := h
    subst h; rfl
  | (k, d') :: r, _, ks, d, v, ⟨ks', u, L', e1, e2, a, b⟩, rv => by
    subst e1 e2
    have ih := repT_map (ks := ks) b rv
    by_cases h : ks' = ks
    · subst h
      simp only [List.map_cons, if_pos]
      exact ⟨ks', v, _, rfl, rfl, rv, ih⟩
    · have : D.tup (ks'.map kD) ≠ D.tup (ks.map kD) := fun z => h (kDs_inj (D.tup.inj z))
      simp only [List.map_cons, if_neg h, if_neg this]
      exact ⟨ks', u, _, rfl, rfl, a, ih⟩
theorem repK_map : ∀ {kvs : List (D × D)} {L : List (L2.Key × V)} {ks : L2.Key} {d : D} {v : V}, RepK G H w kvs L → Rep G H w d v →
    RepK G H w (kvs.map fun p => if p.1 = kD ks then (p.1, d) else p) (L.map fun kv => if kv.1 = ks then (kv.1, v) else kv)
  | [], _, ks, d, v, h, r => by
    have h : _ = [] := h
    subst h; rfl
  | (k, d') :: r, _, ks, d, v, ⟨ks', u, L', e1, e2, a, b⟩, rv => by
    subst e1 e2
    have ih := repK_map (ks := ks) b rv
    by_cases h : ks' = ks
    · subst h
      simp only [List.map_cons, if_pos]
      exact ⟨ks', v, _, rfl, rfl, rv, ih⟩
    · have : kD ks' ≠ kD ks := fun z => h (kD_inj z)
      simp only [List.map_cons, if_neg h, if_neg this]
      exact ⟨ks', u, _, rfl, rfl, a, ih⟩
theorem repT_put {kvs : List (D × D)} {L : List (List L2.Key × V)} {ks : List L2.Key} {d : D} {v : V} (h : RepT G H w kvs L) (r : Rep G H w d v) : RepT G H w (dput kvs (.tup (ks.map kD)) d) (putK L ks v) := by
  unfold dput putK
  rw [repT_any ks h]
  split
  · exact repT_map h r
  · exact repT_app h r
theorem repK_put {kvs : List (D × D)} {L : List (L2.Key × V)} {ks : L2.Key} {d : D} {v : V} (h : RepK G H w kvs L) (r : Rep G H w d v) : RepK G H w (dput kvs (kD ks) d) (putK L ks v) := by
  unfold dput putK
  rw [repK_any ks h]
  split
  · exact repK_map h r
  · exact repK_app h r
/-- an empty dict is of either kind -/
theorem swapT (I : Inv X pins σ H s) {a : Addr} (h : H a = some (.dK [])) : Inv X pins σ (L2.upd H a (.dT [])) s := by
  have ok := I.hok a _ h
  obtain ⟨z1, z2, vs, kv, dd⟩ := (show ([] : List (L2.Key × V)).length ≤ sizeLine ∧ (a == sysModules) = false ∧ ∃ vs, KV [] vs ∧ Heap.DictOf (mixKind X.prog X.w) s.heap a vs from ok)
  cases kv
  obtain ⟨o, es, ep, h1, h2, h3, h4, h5, h6⟩ := empty_dT dd
  exact I.write (h' := s.heap) (x := a) (e := a) (o := .dT []) (t' := s.toks) (by rw [h]; trivial) (.inl rfl) (fun b u _ hb => hb) ⟨_, h1⟩ (by
    unfold ObjOk
    exact ⟨by simp, z2, [], .nil, o, es, ep, h1, h2, h3, h4, h6⟩)
theorem swapK (I : Inv X pins σ H s) {a : Addr} (h : H a = some (.dT [])) : Inv X pins σ (L2.upd H a (.dK [])) s := by
  obtain ⟨z1, z2, xs, kt, dd⟩ := dt_rd I.hok (.inl h)
  cases kt
  have dk := empty_dK dd
  have dk2 := dk
  obtain ⟨o, es, ep, h1, h2, h3, h4, h5, h6⟩ := dk
  exact I.write (h' := s.heap) (x := a) (e := a) (o := .dK []) (t' := s.toks) (by rw [h]; trivial) (.inl rfl) (fun b u _ hb => hb) ⟨_, h1⟩ (show ([] : List (L2.Key × V)).length ≤ sizeLine ∧ (a == sysModules) = false ∧ ∃ vs, KV [] vs ∧ Heap.DictOf (mixKind X.prog X.w) s.heap a vs from ⟨by simp, z2, [], .nil, dk2⟩)
theorem upd_upd {H : Hp} {a : Addr} {x y : HO} : L2.upd (L2.upd H a x) a y = L2.upd H a y := by
  funext b
  by_cases h : b = a
  · subst h; rw [upd_same, upd_same]
  · rw [upd_ne h, upd_ne h, upd_ne h]
theorem mono_write (st : StoR G w S H) {l : Nat} {a : Addr} {u : HO} (hp : w.ph[l]? = some a) (h : H a = some u) (nt : ∀ us, u ≠ .tup us) (nf : NoFz u) (o : HO) : Ext H w (L2.upd H a o) w :=
  Ext.write st hp (fun us z => by rw [h] at z; exact nt us (Option.some.inj z)) fun x y z => by rw [h] at z; exact nf x y (Option.some.inj z)
theorem subSet_ok (hu : X.A.units + 20 < cLine) : PSet X (rSub G subSet) := by
  intro pins s σ H o i v ov iv u Q I ro ri rv ⟨w, S, x, k, d, S', st, rx, rk, rd, e, q⟩
  unfold subSet at e
  split at e
  · rename_i l
    obtain ⟨a, rfl, hp⟩ := rx
    split at e
    · rename_i kvs hx
      obtain ⟨ob, h1, h2⟩ := st.ob l a hp
      rw [hx] at h1
      obtain rfl : Ob.dct kvs = ob := Option.some.inj h1
      split at e
      · rename_i hc
        cases e
        simp only [Bool.and_eq_true, decide_eq_true_eq] at hc
        obtain ⟨ok, hlen⟩ := hc
        have big : (4096 : Nat) ≤ sizeLine := by rw [sizeLine_eq]; decide
        unfold keysOk at ok
        simp only [Bool.and_eq_true, Bool.or_eq_true] at ok
        obtain ⟨o1, o2⟩ := ok
        rcases o2 with ⟨o2, o3⟩ | ⟨o2, o3⟩
        · obtain ⟨ks, rfl⟩ := keyT_ex o2
          obtain ⟨b, rfl, hb⟩ := rep_tkey st rk o1
          have go : ∀ H0 : Hp, ∀ L, H0 a = some (.dT L) → (∀ o, L2.upd H0 a o = L2.upd H a o) → Inv X pins σ H0 s → H0 b = some (.tup (ks.map kV)) → RepT G H w kvs L → (∃ u', H a = some u' ∧ (∀ us, u' ≠ .tup us) ∧ NoFz u') →
              wpAny (model X.prog X.w) X.A (setItem ov iv u) (fun x s' => ∃ H', L2.Inv X pins σ H' s' ∧ Q H') X.xe s := by
            intro H0 L hL hu0 I0 hb0 rL ⟨u', hu', nt, nf⟩
            refine set_dict (by omega) pins s σ H0 _ _ v ov iv u Q I0 ro ri rv ⟨a, _, rfl, .inr ⟨L, ks, b, hL, rfl, hb0, by rw [RepT.length rL]; omega, rfl⟩, ?_⟩
            rw [hu0]
            have ex := mono_write st hp hu' nt nf (.dT (putK L ks v))
            refine q w _ ex (st.write hp (fun us z => by rw [hu'] at z; exact nt us (Option.some.inj z)) (fun x y z => by rw [hu'] at z; exact nf x y (Option.some.inj z)) (.inl ⟨_, upd_same, repT_put (RepT.mono ex _ _ rL) (rd.mono ex)⟩))
          rcases h2 with ⟨L, hL, rL⟩ | ⟨L, hL, rL⟩ | ⟨L, hL, mx, rL⟩
          rotate_left 2
          · exact (mixd_T mx o3).elim
          · exact go H L hL (fun _ => rfl) I hb rL ⟨_, hL, (fun _ z => by cases z), (fun _ _ z => by cases z)⟩
          · have : kvs = [] := by
              cases kvs with
              | nil => rfl
              | cons p r =>
                obtain ⟨ks', _, _, _, e2, _, _⟩ := rL
                simp only [List.all_cons, Bool.and_eq_true] at o3
                rw [e2] at o3
                cases ks' <;> simp [kD, keyT] at o3
            subst this
            have : L = [] := rL
            subst this
            have hab : b ≠ a := fun z => by subst z; rw [hL] at hb; cases hb
            exact go _ [] upd_same (fun _ => upd_upd) (swapT I hL) (by rw [upd_ne hab]; exact hb) rfl ⟨_, hL, (fun _ z => by cases z), (fun _ _ z => by cases z)⟩
        · obtain ⟨ks, rfl⟩ := keyK_ex o2
          have hk : i = kV ks := by
            cases ks <;> exact rk
          subst hk
          have go : ∀ H0 : Hp, ∀ L, H0 a = some (.dK L) → (∀ o, L2.upd H0 a o = L2.upd H a o) → Inv X pins σ H0 s → RepK G H w kvs L → (∃ u', H a = some u' ∧ (∀ us, u' ≠ .tup us) ∧ NoFz u') →
              wpAny (model X.prog X.w) X.A (setItem ov iv u) (fun x s' => ∃ H', L2.Inv X pins σ H' s' ∧ Q H') X.xe s := by
            intro H0 L hL hu0 I0 rL ⟨u', hu', nt, nf⟩
            refine set_dict (by omega) pins s σ H0 _ _ v ov iv u Q I0 ro ri rv ⟨a, _, rfl, .inl ⟨L, ks, hL, rfl, by rw [RepK.length rL]; omega, rfl⟩, ?_⟩
            rw [hu0]
            have ex := mono_write st hp hu' nt nf (.dK (putK L ks v))
            refine q w _ ex (st.write hp (fun us z => by rw [hu'] at z; exact nt us (Option.some.inj z)) (fun x y z => by rw [hu'] at z; exact nf x y (Option.some.inj z)) (.inr (.inl ⟨_, upd_same, repK_put (RepK.mono ex _ _ rL) (rd.mono ex)⟩)))
          rcases h2 with ⟨L, hL, rL⟩ | ⟨L, hL, rL⟩ | ⟨L, hL, mx, rL⟩
          rotate_left 2
          · exact (mixd_K mx o3).elim
          · have : kvs = [] := by
              cases kvs with
              | nil => rfl
              | cons p r =>
                obtain ⟨ks', _, _, _, e2, _, _⟩ := rL
                simp only [List.all_cons, Bool.and_eq_true] at o3
                rw [e2] at o3
                simp [keyK] at o3
            subst this
            have : L = [] := rL
            subst this
            exact go _ [] upd_same (fun _ => upd_upd) (swapK I hL) rfl ⟨_, hL, (fun _ z => by cases z), (fun _ _ z => by cases z)⟩
          · exact go H L hL (fun _ => rfl) I rL ⟨_, hL, (fun _ z => by cases z), (fun _ _ z => by cases z)⟩
      · cases e
    · rename_i xs hx
      refine lstSet_ok pins s σ H _ i v ov iv u Q I ro ri rv ⟨w, S, .loc l, k, d, S', st, ⟨a, rfl, hp⟩, rk, rd, ?_, q⟩
      unfold lstSet
      simp only [hx]
      exact e
    · cases e
  · cases e
end
end Lt
namespace Lt
open PySem L2 PySem.Spec PyProof.Rows
def constV : D → V
  | .bl b => .bl b
  | .int i => .int i
  | _ => .non
def isC : D → Bool
  | .non => true
  | .bl _ => true
  | .int _ => true
  | _ => false
section
variable {G : AMap} {H H' H1 H2 : Hp} {w w1 w2 : Wd} {W : XK} {S S1 S2 : Sto} {X : Cx} {pos : Pos}
theorem reps_const : ∀ {ds : List D}, (ds.all isC) = true → Reps G H w ds (ds.map constV)
  | [], _ => rfl
  | d :: ds, h => by
    simp only [List.all_cons, Bool.and_eq_true] at h
    refine Reps.cons ?_ (reps_const h.2)
    cases d <;> first | rfl | (exact absurd h.1 (by simp [isC]))
/-- the promise of a function of the program -/
def spF (G : AMap) (np : Nat) (run : List D → Sto → O) : Sp := fun vs H Q E => vs.length = np ∧ ∃ w ds S, StoR G w S H ∧ Reps G H w ds vs ∧ GoodS G H w E (run ds S) { nx := fun _ H' => Q .non H', rt := Q }
theorem finish_ok {fz : Bool} {o : O} {Q : VK} (st : StoR G w S H) (h : GoodR G H w W (finish fz S o) Q) : GoodS G H w W o { nx := fun _ H' => Q .non H', rt := Q } := by
  cases o with
  | nx σ S' => exact fun w2 σ H2 ex st2 _ => fin_ok (fz := fz) st h w2 .non H2 ex st2 rfl
  | rt d S' => exact fin_ok st h
  | exc x S' => exact h
  | ct σ S' => exact h.elim
  | bad => exact h.elim
/-- what is known of a function of the program -/
structure FnFact (Pm : Program) (wd : World) (K : PySem.W.Frag) (mg : Str → Option Value) (base : Heap) (G : AMap) (k : Nat) (a : Addr) (F : Fun) (fd : FuncData) (run : List D → Sto → O) : Prop where
  con : (F.dfl.all isC) = true
  len : F.pn.length = F.np
  ok : FnOk Pm wd K mg base (L2N.CX Pm wd) k a fd F.pn (spF G F.np run) ∧ (∀ n, n ≤ F.dfl.length → ∃ ds, Binds K fd F.pn ds ∧ Vals ((F.dfl.drop n).map constV) ds) ∧ (F.dfl = [] → ∀ (s : Shared) (us : List Value), us.length = F.pn.length → BindsTo s fd { pos := us } (F.pn.zip us))
theorem all_drop {α : Type} {p : α → Bool} {xs : List α} (n : Nat) (h : xs.all p = true) : (xs.drop n).all p = true :=
  List.all_eq_true.mpr fun x hx => List.all_eq_true.mp h x (List.mem_of_mem_drop hx)
theorem sd_call {call : Fun → List D → Sto → O} {k : Nat} {a : Addr} {F : Fun} {x : Str} {p : Pos} {e : Expr} {es : List Expr} {fes : Slots → Sto → R (List D)} {fz : Bool} {n : Nat}
    {fd : FuncData} (ff : FnFact X.prog X.w X.K X.mg X.base G k a F fd (call F)) (hr : Room k X.A) (hg : Gl X x) (hm : X.mg x = some (.ref a)) (hk : PySem.W.keepIn X.K (.ref a) = true) (hx : ∀ σ, PassesAt (L2N.CX X.prog X.w) X σ W)
    (ha : n ≤ F.np ∧ F.np ≤ n + F.dfl.length) (hl : ∀ σ S ds S', fes σ S = .ok ds S' → ds.length = n) (hs : noStar e = true) (hss : (es.all noStar) = true) (h : PA X (e :: es) (tEVs G W fes)) (hd : (x == Str.ofString "__debug__") = false) :
    PE X (.Call (.Name x p) (e :: es) [] pos) (tEV G W fun σ S => (fes σ S).bind fun ds S1 => callF call fz F ds S1) := by
  obtain ⟨fok, hb, _⟩ := ff.ok
  obtain ⟨ds0, hbd, hv⟩ := hb (n + F.dfl.length - F.np) (by omega)
  refine pe_imp (pe_callSD fok hr hg hm hk hbd hv hx h hd (star_of hs es X.env) (stars_of hss pos X.env)) fun σ H Q ⟨w, σD, S, sl, st, q⟩ => ⟨w, σD, S, sl, st, ?_⟩
  cases e1 : fes σD S with
  | bad => simp only [e1, R.bind] at q; exact q.elim
  | exc x S1 => simp only [e1, R.bind] at q; exact q
  | ok ds S1 =>
    simp only [e1, R.bind] at q
    have hn := hl _ _ _ _ e1
    intro w2 vs H2 ex st2 rs
    unfold callF at q
    rw [hn] at q
    refine ⟨?_, w2, _, S1, st2, Reps.append rs (reps_const (all_drop _ ff.con)), finish_ok st2 (GoodR.mono ex q)⟩
    rw [List.length_append, Reps.length rs, hn, List.length_map, List.length_drop]
    omega
/-! ### raise -/
theorem pmk_own0 {C : Addr} {bmB : List Value} {B newId initId : String} {x : Str} {p pos : Pos} (F : ExcBaseFacts B newId initId bmB) (q : PySem.W.excIn X.K C bmB newId = true) (gC : X.mg x = some (.ref C)) (kC : PySem.W.keepIn X.K (.ref C) = true) (r : Raises X (.ref C)) (hg : Gl X x) (hd : (x == Str.ofString "__debug__") = false) :
    L2N.PMk X (.Call (.Name x p) [] [] pos) fun _ H Q => Q (.ref C) none H := by
  intro pins s σ H Q I h
  refine wpAny_Call_NameR (wpAny_mono ((pe_glob (pos := p) hg gC (v := .ref C) rfl hd).run pins s σ H (fun v H' => v = .ref C ∧ H' = H) I ⟨rfl, rfl⟩) ?_ fun _ _ z => z)
  rintro u s1 ⟨v, H', I1, rv, rfl, rfl⟩
  cases rv
  refine PySem.W.callWith_K0 I1.kIn kC ?_
  obtain ⟨bm, N, nm, qn, bs, hdct, sn, sub, ab, col, dd, k0, k1, k2, k3, k5, mN, hC, hN, hi, ht⟩ := exc_obj I1.kIn q
  have := wpAny_call_exc_subT (prog := X.prog) (w := X.w) (A := X.A) (E := X.xe) (g := s1.gens) (d := s1.drawn) (t := s1.toks) (os := s1.os) (Q := L2N.MkP X pins σ Q) F ht (rest := []) hC hN hi ?_ (by simp)
  · exact this
  · intro h' e mk
    obtain ⟨t, he, ht0, ht1⟩ := mk.there
    refine ⟨e, _, _, s1, H', .ref C, none, rfl, I1, mk.keeps, mk.new, he, ⟨rfl, rfl, ?_⟩, rfl, rfl, ?_, rfl, I1.bare, r, h⟩
    · intro vs hv
      cases hv
      rfl
    · exact I1.hok.gone mk.new
/-- what is known of an exception of the program -/
structure ExFact (X : Cx) (G : AMap) (x : Str) : Prop where
  at_ : ∃ C bmB, G x = some C ∧ X.mg x = some (.ref C) ∧ PySem.W.excIn X.K C bmB "ValueError.__new__" = true ∧ bmB = [.type "ValueError", .type "Exception", .type "BaseException", .type "object"] ∧ PySem.W.keepIn X.K (.ref C) = true ∧ Raises X (.ref C)
/-- what an exception meets outside -/
def Outs (X : Cx) (W : XK) : Prop := ∃ W' : WX, L2N.Takes X W' ∧ ∀ cls d σ H, σ.length = X.N.length → W cls d H → W' cls d σ H
theorem Outs.pass (h : Outs X W) (σ : L2.St) : PassesAt (L2N.CX X.prog X.w) X σ W := by
  obtain ⟨W', tk, k⟩ := h
  intro pins H s e s' I ⟨a, B, H', cls, d, h1, h2, h3, h4, h5, h6, h7, h8⟩
  exact L2N.passAt tk σ pins H s e s' I ⟨a, B, H', cls, d, h1, h2, h3, h4, h5, h6, h7, k cls d σ H' I.len h8⟩
theorem sx_raise {x : Str} {p p2 : Pos} {es : List Str} (hc : X.calm = true) (ho : Outs X W) (hx : es.contains x = true → ExFact X G x) (hg : Gl X x) (hd : (x == Str.ofString "__debug__") = false) :
    PS X (.Raise (some (.Call (.Name x p) [] [] p2)) none pos) (tEX G W fun _ S => if es.contains x then .exc x S else .bad) := by
  by_cases hc2 : es.contains x = true
  · obtain ⟨C, bmB, gx, mx, ex, eb, kx, rx⟩ := (hx hc2).at_
    subst eb
    obtain ⟨W', tk, k⟩ := ho
    refine ⟨fun pins s σ H D I ⟨w, σD, S, sl, st, q⟩ => (L2N.ps_raise hc tk (pmk_own0 PySem.F.excBase_ValueError ex mx kx rx hg hd)).run pins s σ H D I ?_⟩
    simp only [if_pos hc2] at q
    exact k _ _ σ H I.len (q w H (Ext.refl _ _) st C gx)
  · exact ps_imp ps_never fun D σ H ⟨w, σD, S, sl, st, q⟩ => by
      simp only [if_neg hc2] at q
      exact q
end
end Lt
namespace Lt
open PySem L2 PySem.Spec PyProof.Rows
section
variable {G : AMap} {H H1 H2 : Hp} {w w1 w2 : Wd} {W : XK} {S : Sto}
variable {X : Cx} {pins : List (Addr × Obj)} {σ : L2.St} {s : Shared}
theorem mD_inj {a b : MEnt} (h : mD a = mD b) : mK a = mK b := by
  cases a with
  | inl k =>
    cases b with
    | inl k' => exact congrArg Sum.inl (kD_inj h)
    | inr p => cases k <;> cases h
  | inr p =>
    cases b with
    | inl k => cases k <;> cases h
    | inr p' =>
      have : p.1.map kD = p'.1.map kD := by injection h
      exact congrArg Sum.inr (kDs_inj this)
theorem mD_of {a b : MEnt} (h : mK a = mK b) : mD a = mD b := by
  cases a with
  | inl k =>
    cases b with
    | inl k' => cases h; rfl
    | inr p => cases h
  | inr p =>
    cases b with
    | inl k => cases h
    | inr p' =>
      have h : p.1 = p'.1 := Sum.inr.inj h
      show D.tup _ = D.tup _
      rw [h]
/-- a look-up among keys of both kinds -/
theorem repM_get : ∀ {kvs : List (D × D)} {L : List (MEnt × V)} (m : MEnt), RepM G H w kvs L → (∀ d, dget kvs (mD m) = some d → ∃ p ∈ L, mK p.1 = mK m ∧ Rep G H w d p.2) ∧ (dget kvs (mD m) = none → ∀ p ∈ L, mK p.1 ≠ mK m)
  | [], L, m, h => by
    have h : L = [] := h
    subst h
    exact ⟨fun d e => by simp [dget] at e, fun _ p hp => by cases hp⟩
  | (k, d) :: r, _, m, ⟨m', u, L', e1, e2, t, a, b⟩ => by
    subst e1 e2
    have ih := repM_get m b
    by_cases hk : mK m' = mK m
    · have hd := mD_of hk
      refine ⟨fun d' e => ⟨(m', u), List.mem_cons_self, hk, ?_⟩, fun e => ?_⟩
      · simp [dget, hd] at e
        rw [← e]; exact a
      · simp [dget, hd] at e
    · have hne : ¬ (mD m' = mD m) := fun z => hk (mD_inj z)
      have e1 : dget ((mD m', d) :: r) (mD m) = dget r (mD m) := by simp [dget, List.find?_cons, hne]
      rw [e1]
      refine ⟨fun d' e => ?_, fun e p hp => ?_⟩
      · obtain ⟨p, hp, h1, h2⟩ := ih.1 d' e
        exact ⟨p, List.mem_cons_of_mem _ hp, h1, h2⟩
      · rcases List.mem_cons.mp hp with z | hp
        · subst z; exact hk
        · exact ih.2 e p hp
theorem repM_app : ∀ {kvs : List (D × D)} {L : List (MEnt × V)} {m : MEnt} {d : D} {v : V}, RepM G H w kvs L → TupR H m → Rep G H w d v → RepM G H w (kvs ++ [(mD m, d)]) (L ++ [(m, v)])
  | [], _, m, d, v, h, t, r => by
    have h : _ = [] := h
    subst h
    exact ⟨m, v, [], rfl, rfl, t, r, rfl⟩
  | (k, d') :: r, _, m, d, v, ⟨m', u, L', e1, e2, t', a, b⟩, t, rv => by
    subst e1 e2
    exact ⟨m', u, _, rfl, rfl, t', a, repM_app b t rv⟩
theorem conv_T {P : Program} {wo : World} : ∀ {kvs : List (D × D)} {L : List (List L2.Key × V)} {xs : List (List L2.Key × Addr × Value)}, RepT G H w kvs L → KT H L xs →
    ∃ M : List (MEnt × V), RepM G H w kvs M ∧ Paired (EntM wo) M (xs.map (entryOfKey (tupleKind (mixKind P wo)))) ∧ (M.map fun p => mK p.1) = xs.map fun x => Sum.inr x.1
  | [], L, xs, r, t => by
    have r : L = [] := r
    subst r
    cases t
    exact ⟨[], rfl, .nil, rfl⟩
  | (k, d) :: rest, _, xs, ⟨ks, u, L', e1, e2, a, b⟩, t => by
    subst e1 e2
    cases t with
    | @cons _ x _ xs' h t =>
      obtain ⟨h1, h2, h3⟩ := h
      obtain ⟨M, r, p, n⟩ := conv_T (P := P) (wo := wo) b t
      have h1 : ks = x.1 := h1
      subst h1
      exact ⟨(.inr (x.1, x.2.1), u) :: M, ⟨_, _, _, rfl, rfl, .inl h2, a, r⟩, .cons ⟨rfl, rfl, h3⟩ p, by
        rw [List.map_cons, List.map_cons, n]; rfl⟩
theorem conv_K {P : Program} {wo : World} : ∀ {kvs : List (D × D)} {L : List (L2.Key × V)} {vs : List (L2.Key × Value)} {es : List DictEntry}, RepK G H w kvs L → KV L vs → Pairs (mixKind P wo) es vs → (∀ e ∈ es, ∃ k, (mixKind P wo).is k e.key = true ∧ e.hash = (mixKind P wo).hash k) →
    ∃ M : List (MEnt × V), RepM G H w kvs M ∧ Paired (EntM wo) M es ∧ (M.map fun p => mK p.1) = vs.map fun x => Sum.inl x.1
  | [], L, vs, es, r, t, q, _ => by
    have r : L = [] := r
    subst r
    cases t
    cases q
    exact ⟨[], rfl, .nil, rfl⟩
  | (k, d) :: rest, _, vs, es, ⟨ks, u, L', e1, e2, a, b⟩, t, q, hs => by
    subst e1 e2
    cases t with
    | @cons _ x _ xs' h t =>
      obtain ⟨h1, h2⟩ := h
      have h1 : ks = x.1 := h1
      subst h1
      cases q with
      | @cons e _ es' _ q1 q2 q3 =>
        obtain ⟨M, r, p, n⟩ := conv_K b t q3 fun e he => hs e (List.mem_cons_of_mem _ he)
        obtain ⟨k2, i1, i2⟩ := hs e List.mem_cons_self
        have : k2 = x.1 := (mixKind P wo).inj _ _ _ i1 q1
        subst this
        exact ⟨(.inl x.1, u) :: M, ⟨_, _, _, rfl, rfl, trivial, a, r⟩, .cons ⟨q1, i2, by rw [q2]; exact h2⟩ p, by
          rw [List.map_cons, List.map_cons, n]; rfl⟩
/-- a tuple-keyed dict, seen as one with keys of both kinds -/
theorem swap_T (hw : G.wo = X.w) (I : Inv X pins σ H s) {a : Addr} {kvs : List (D × D)} {L : List (List L2.Key × V)} (h : H a = some (.dT L)) (r : RepT G H w kvs L) : ∃ M, Inv X pins σ (L2.upd H a (mxO G.wo a M)) s ∧ RepM G H w kvs M := by
  obtain ⟨z, na, xs, t, o, es, ep, h1, h2, h3, h4, _, h6⟩ := dt_of I.hok h
  obtain ⟨M, rm, pm, nm⟩ := conv_T (P := X.prog) (wo := X.w) r t
  refine ⟨M, ?_, rm⟩
  have lm : M.length ≤ sizeLine := by rw [RepM.length rm, ← RepT.length r]; exact z
  refine I.write (h' := s.heap) (x := a) (e := a) (t' := s.toks) (by rw [h]; trivial) (.inl rfl) (fun b u _ hb => hb) ⟨_, h1⟩ (mx_ok (P := X.prog) ?_)
  rw [hw]
  refine ⟨lm, na, o, es, ep, h1, h2, h3, by rw [h4]; exact pm, ?_⟩
  rw [nm]
  have : (xs.map fun x => (Sum.inr x.1 : MKey)) = (xs.map (·.1)).map Sum.inr := by rw [List.map_map]; rfl
  rw [this]
  exact List.Pairwise.map _ (fun a b n z => n (Sum.inr.inj z)) h6
theorem swap_K (hw : G.wo = X.w) (I : Inv X pins σ H s) {a : Addr} {kvs : List (D × D)} {L : List (L2.Key × V)} (h : H a = some (.dK L)) (r : RepK G H w kvs L) : ∃ M, Inv X pins σ (L2.upd H a (mxO G.wo a M)) s ∧ RepM G H w kvs M := by
  obtain ⟨z, na, vs, t, o, es, ep, h1, h2, h3, h4, h5, h6⟩ := dk_of I.hok h
  obtain ⟨M, rm, pm, nm⟩ := conv_K (P := X.prog) (wo := X.w) r t h5 fun e he => h4 e (Array.mem_toList_iff.mp he)
  refine ⟨M, ?_, rm⟩
  have lm : M.length ≤ sizeLine := by rw [RepM.length rm, ← RepK.length r]; exact z
  refine I.write (h' := s.heap) (x := a) (e := a) (t' := s.toks) (by rw [h]; trivial) (.inl rfl) (fun b u _ hb => hb) ⟨_, h1⟩ (mx_ok (P := X.prog) ?_)
  rw [hw]
  refine ⟨lm, na, o, es, ep, h1, h2, h3, pm, ?_⟩
  rw [nm]
  have : (vs.map fun x => (Sum.inl x.1 : MKey)) = (vs.map (·.1)).map Sum.inl := by rw [List.map_map]; rfl
  rw [this]
  exact List.Pairwise.map _ (fun a b n z => n (Sum.inl.inj z)) h6
/-- a key of either kind, as it stands -/
theorem mkey_of (st : StoR G w S H) {k : D} {y : V} (h1 : kOk k = true) (h2 : keyT k = true ∨ keyK k = true) (r : Rep G H w k y) : ∃ m, k = mD m ∧ y = mV m ∧ TupR H m := by
  rcases h2 with h2 | h2
  · obtain ⟨ks, rfl⟩ := keyT_ex h2
    obtain ⟨b, rfl, hb⟩ := rep_tkey st r h1
    exact ⟨.inr (ks, b), rfl, rfl, .inl hb⟩
  · obtain ⟨ks, rfl⟩ := keyK_ex h2
    exact ⟨.inl ks, rfl, rep_key r, trivial⟩
theorem tupOk_of (I : Inv X pins σ H s) {m : MEnt} (t : TupR H m) : TupOk X.prog X.w s.heap m := by
  cases m with
  | inl k => trivial
  | inr p =>
    obtain ⟨_, its, r, o, h1, h2, n, h3⟩ := (show ObjOk X.prog X.w H s.heap p.2 (.tup (p.1.map kV)) from t.ok I.hok)
    exact ⟨o, its.toArray, n, h1, h2, h3, by simpa using items_are r⟩
theorem mV_is {P : Program} {wo : World} {m : MEnt} {u : Value} (r : RelV (mV m) u) : mIs m u := by
  cases m with
  | inl k => exact kV_is (P := P) (w := wo) r
  | inr p => exact r
/-- the place of a dict that takes a key of the other kind -/
theorem mx_place (hw : G.wo = X.w) (I : Inv X pins σ H s) {l : Nat} {kvs : List (D × D)} {x : V} (st : StoR G w S H) (ra : Rep G H w (.loc l) x) (hx : S[l]? = some (.dct kvs)) :
    ∃ a H0 L, x = .ref a ∧ w.ph[l]? = some a ∧ (∀ us', H a ≠ some (.tup us')) ∧ (∀ x u, H a ≠ some (.frz x u)) ∧ Inv X pins σ H0 s ∧ H0 a = some (mxO G.wo a L) ∧ RepM G H w kvs L ∧ (∀ o, L2.upd H0 a o = L2.upd H a o) ∧ (mixd kvs = true → H0 = H) := by
  obtain ⟨a, rfl, hp⟩ := ra
  obtain ⟨ob, h1, h2⟩ := st.ob l a hp
  rw [hx] at h1
  obtain rfl := Option.some.inj h1
  rcases h2 with ⟨L, hL, r⟩ | ⟨L, hL, r⟩ | ⟨L, hL, mx, r⟩
  · obtain ⟨M, I2, rm⟩ := swap_T hw I hL r
    exact ⟨a, _, M, rfl, hp, (fun us' z => by rw [hL] at z; cases z), (fun x u z => by rw [hL] at z; cases z), I2, upd_same, rm, fun _ => upd_upd, fun z => (mixd_T z (repT_keys r)).elim⟩
  · obtain ⟨M, I2, rm⟩ := swap_K hw I hL r
    exact ⟨a, _, M, rfl, hp, (fun us' z => by rw [hL] at z; cases z), (fun x u z => by rw [hL] at z; cases z), I2, upd_same, rm, fun _ => upd_upd, fun z => (mixd_K z (repK_keys r)).elim⟩
  · exact ⟨a, H, L, rfl, hp, (fun us' z => by rw [hL] at z; cases z), (fun x u z => by rw [hL] at z; cases z), I, hL, r, fun _ => rfl, fun _ => rfl⟩
end
end Lt
namespace Lt
open PySem L2 PySem.Spec PyProof.Rows
section
variable {G : AMap} {H H1 H2 : Hp} {w w1 w2 : Wd} {W : XK} {S : Sto}
variable {X : Cx} {pins : List (Addr × Obj)} {σ : L2.St} {s : Shared}
/-- no super() -/
def noSup : Expr → Bool
  | .Call (.Name _ _) [] [] _ => false
  | _ => true
theorem base_of {o : Expr} (h : noSup o = true) (m : Str) (env : Env) (x : Sem Value) : attributeBase o m env x = x := by
  unfold attributeBase
  split
  · simp [noSup] at h
  · rfl
theorem back_of : ∀ {es : List Expr} (h : (es.all noStar) = true) (pos : Pos) (env : Env), backTo pos (starEach es env) = starEach es env ∧ (starEach es env).length = es.length
  | [], _, _, _ => ⟨rfl, rfl⟩
  | e :: es, h, pos, env => by
    simp only [List.all_cons, Bool.and_eq_true] at h
    obtain ⟨h1, h2⟩ := back_of h.2 pos env
    rw [star_of h.1]
    refine ⟨?_, by simp [h2]⟩
    unfold backTo at h1 ⊢
    rw [List.map_cons, h1]
    simp
theorem few_of {es : List Expr} (h : (es.all noStar) = true) (hl : es.length < 30) (pos : Pos) (env : Env) : ((backTo pos (starEach es env)).all (fun x => !x.1) && (backToKw pos (keywordEach [] env)).all (fun x => x.1.isSome)
      && decide (es.length + ([] : List Keyword).length + (if ([] : List Keyword).isEmpty then 0 else 1) < 30)) = true := by
  have h1 := stars_of h pos env
  have h2 : (backTo pos (starEach es env)).all (fun x => !x.1) = true := by
    rw [List.all_eq_true]
    intro x hx
    have := List.any_eq_false.mp h1 x hx
    simpa using this
  rw [h2]
  simp [backToKw, keywordEach, hl]
/-- the type of what a method is asked of -/
def TyW (X : Cx) (T : String) (x : V) (H : Hp) : Prop := ∀ (pins : List (Addr × Obj)) (σ : L2.St) (s : Shared) (v : Value), Inv X pins σ H s → RelV x v → s.TypeIs v T ∧ ∀ a, v = .ref a → ∃ ob, s.heap.get? a = some ob ∧ ob.dict = none
theorem tyw_lst {a : Addr} {us : List V} (h : Rd H a (.lst us)) : TyW X "list" (.ref a) H := fun pins σ s v I r => by
  obtain ⟨_, its, n, _, _, e⟩ := lst_obj I h
  cases r
  exact ⟨⟨_, e, rfl⟩, fun b q => by cases q; exact ⟨_, e, rfl⟩⟩
/-- a dict of any of the three kinds -/
def IsDX (H : Hp) (a : Addr) : Prop := IsD H a ∨ ∃ wo L, Rd H a (mxO wo a L)
theorem isDX_at (I : Inv X pins σ H s) {a : Addr} (d : IsDX H a) : s.TypeIs (.ref a) "dict" ∧ (∀ b, Value.ref a = .ref b → ∃ ob, s.heap.get? b = some ob ∧ ob.dict = none) ∧ (a == sysModules) = false := by
  rcases d with d | ⟨wo, L, rd⟩
  · exact isD_at I d
  · have m := mx_at (P := X.prog) (rd.ok I.hok)
    have m2 := m
    obtain ⟨_, na, o, es, ep, ho, hx, _⟩ := m2
    exact ⟨typeIs_mx m, fun b q => by cases q; exact ⟨o, ho, hx.2.1⟩, na⟩
theorem tyw_dct {a : Addr} (h : IsDX H a) : TyW X "dict" (.ref a) H := fun pins σ s v I r => by
  obtain ⟨t1, t2, _⟩ := isDX_at I h
  cases r
  exact ⟨t1, t2⟩
theorem isD_of {kvs : List (D × D)} {a : Addr} (d : DicV G H w kvs a) : IsDX H a := d.elim (fun ⟨L, h, _⟩ => .inl (.inr ⟨L, h⟩)) fun d => d.elim (fun ⟨L, h, _⟩ => .inl (.inl ⟨L, h⟩)) fun ⟨L, h, _⟩ => .inr ⟨_, L, h⟩
def rBM (G : AMap) (b : Bmt) : V → List V → Hp → VK → Prop := fun x xs H Q => ∃ w S a ds, StoR G w S H ∧ Rep G H w a x ∧ Reps G H w ds xs ∧ GoodN G H w (bmeth S b a ds) Q
theorem ne_bm (S : Sto) (b : Bmt) (d : D) (as : List D) : noExc (bmeth S b d as) := by
  unfold bmeth
  split
  · unfold bGet
    split
    · split
      · split <;> trivial
      · trivial
    · split
      · split <;> trivial
      · trivial
    · trivial
  · unfold bSetd
    split
    · split
      · split
        · split <;> trivial
        · split
          · split <;> trivial
          · trivial
      · trivial
    · trivial
  · unfold bPop
    split
    · split
      · split
        · split <;> trivial
        · trivial
      · trivial
    · trivial
  · unfold bPopl
    split
    · split
      · split <;> trivial
      · trivial
    · trivial
  · unfold bApp
    split
    · split
      · split <;> trivial
      · trivial
    · trivial
  · unfold bExt
    split
    · split
      · split <;> trivial
      · trivial
    · trivial
  · unfold bCnt
    split
    · split
      · split <;> trivial
      · trivial
    · trivial
  · unfold bIdx
    split
    · split
      · split
        · split <;> trivial
        · trivial
      · trivial
    · trivial
  · unfold bVal
    split
    · split <;> trivial
    · trivial
  · trivial
/-- o.m(e, ..) -/
theorem sd_bm {T id : String} {name : Str} {b : Bmt} {o e : Expr} {es : List Expr} {apos cpos : Pos} {f : fE} {fes : Slots → Sto → R (List D)} (pa : PlainAttrs T) (slot : Slot T name id) (hty : typeOf (.builtin id) = pure (.type "method_descriptor"))
    (hm : MtR X id (rBM G b)) (ht : ∀ (w : Wd) (S : Sto) (H : Hp) (a : D) (x : V), StoR G w S H → Rep G H w a x → recv S b a = true → TyW X T x H) (ho : PE X o (tEV G W f)) (ha : PA X (e :: es) (tEVs G W fes))
    (hs : noSup o = true) (hst : ((e :: es).all noStar) = true) (hl : (e :: es).length < 30) (hline : (apos.endLine == cpos.line) = true) :
    PE X (.Call (.Attribute o name apos) (e :: es) [] cpos) (tEV G W fun σ S => (f σ S).bind fun x S1 => if recv S1 b x then (fes σ S1).bind fun ds S2 => bmeth S2 b x ds else .bad) := by
  refine ⟨fun pins s σ H Q I h => ?_⟩
  obtain ⟨w, σD, S, sl, st, q⟩ := h
  refine PySem.wpAny_Call_method_late (base_of hs _ _ _) (few_of hst hl _ _) hline rfl (thn (ho.run pins s σ H _ I ⟨w, σD, S, sl, st, GoodR.bind q⟩) fun v s1 ⟨x, H1, I1, r1, w2, d, S2, e2, st2, rd, q2⟩ => ?_)
  split at q2
  · rename_i hr
    obtain ⟨h1, h2⟩ := ht w2 S2 H1 d x st2 rd hr pins σ s1 v I1 r1
    refine ⟨T, id, pa, slot, hty, h1, h2, ?_⟩
    have hA := ha.run cpos pins s1 σ H1 (fun vs H3 => ∃ w3 ds S3, Ext H1 w2 H3 w3 ∧ StoR G w3 S3 H3 ∧ Reps G H3 w3 ds vs ∧ GoodR G H3 w3 W (bmeth S3 b d ds) Q) I1 ⟨w2, σD, S2, sl.mono e2, st2, GoodR.binds q2⟩
    have h3 := hst
    simp only [List.all_cons, Bool.and_eq_true] at h3
    have hb := back_of hst cpos X.env
    have hp := stars_of h3.2 cpos X.env
    rw [(back_of h3.2 cpos X.env).1] at hp
    rw [hb.1, star_of h3.1] at hA ⊢
    refine Calls.callWith_builtin (by show (false || (starEach es X.env).any (fun x => x.1)) = false; rw [hp]; rfl) (Calls.evalArgs_plain ?_)
    exact thn hA fun us s2 ⟨vs, H2, I2, r2, w3, ds, S3, e3, st3, rs, q3⟩ => hm pins s2 σ H2 x vs v us Q I2 r1 r2 ⟨w3, S3, d, ds, st3, rd.mono e3, rs, GoodR.toN (ne_bm _ _ _ _) q3⟩
  · exact q2.elim
theorem big_line : (4096 : Nat) ≤ sizeLine := by rw [sizeLine_eq]; decide
theorem one_rep {d : D} {vs : List V} (r : Reps G H w [d] vs) : ∃ y, vs = [y] ∧ Rep G H w d y := by
  obtain ⟨y, r', rfl, ry, hn⟩ := r
  have hn : r' = [] := hn
  subst hn
  exact ⟨y, rfl, ry⟩
theorem two_rep {d e : D} {vs : List V} (r : Reps G H w [d, e] vs) : ∃ y z, vs = [y, z] ∧ Rep G H w d y ∧ Rep G H w e z := by
  obtain ⟨y, r', rfl, ry, hn⟩ := r
  obtain ⟨z, rfl, rz⟩ := one_rep hn
  exact ⟨y, z, rfl, ry, rz⟩
theorem lst_place {l : Nat} {xs : List D} {x : V} (st : StoR G w S H) (ra : Rep G H w (.loc l) x) (hx : S[l]? = some (.lst xs)) : ∃ p us, x = .ref p ∧ w.ph[l]? = some p ∧ H p = some (.lst us) ∧ Reps G H w xs us ∧ (∀ us', H p ≠ some (.tup us')) ∧ ∀ x u, H p ≠ some (.frz x u) := by
  obtain ⟨p, rfl, hp⟩ := ra
  obtain ⟨ob, h1, h2⟩ := st.ob l p hp
  rw [hx] at h1
  obtain rfl := Option.some.inj h1
  obtain ⟨us, hu, rs⟩ := h2
  exact ⟨p, us, rfl, hp, hu, rs, (fun us' z => by rw [hu] at z; cases z), fun x u z => by rw [hu] at z; cases z⟩
theorem append_ok : MtR X "list.append" (rBM G .append) := by
  intro pins s σ H x xs v us Q I rx rxs ⟨w, S, a, ds, st, ra, rs, g⟩
  replace g : GoodN G H w (bApp S a ds) Q := g
  unfold bApp at g
  split at g
  · rename_i l d
    split at g
    · rename_i ys hx
      split at g
      · rename_i hl
        obtain ⟨p, us', rfl, hp, hu, rs', ht, hf⟩ := lst_place st ra hx
        obtain ⟨y, rfl, ry⟩ := one_rep rs
        have ex := Ext.write (o := .lst (us' ++ [y])) st hp ht hf
        exact mt_append pins s σ H _ _ v us Q I rx rxs ⟨p, us', y, rfl, rfl, hu, by rw [Reps.length rs']; have := big_line; omega,
          g w .non _ ex (st.write hp ht hf ⟨_, upd_same, Reps.append (Reps.mono ex _ _ rs') (Reps.cons (ry.mono ex) Reps.nil)⟩) rfl⟩
      · exact g.elim
    · exact g.elim
  · exact g.elim
/-- x.extend(y), y as it may stand -/
def rExtR : V → List V → Hp → VK → Prop := fun x vs H Q => ∃ l b xs zs, x = .ref l ∧ vs = [.ref b] ∧ H l = some (.lst xs) ∧ Rd H b (.lst zs) ∧ xs.length + zs.length ≤ sizeLine ∧ Q .non (L2.upd H l (.lst (xs ++ zs)))
theorem mt_extR : MtR X "list.extend" rExtR := by
  intro pins s σ H x vs v us Q I rx rv ⟨l, b, xs, zs, e1, e2, hH, hB, hz, q⟩
  subst e1 e2
  cases rx
  obtain ⟨u, rfl, ru⟩ := rv.one
  cases ru
  obtain ⟨_, its, n, r, hl, e⟩ := lst_obj I (.inl hH)
  obtain ⟨_, its2, n2, r2, hl2, e2⟩ := lst_obj I hB
  have small : its.toArray.size + its2.toArray.size ≤ sizeLine := by
    rw [List.size_toArray, List.size_toArray]
    omega
  have hlong : ¬ (!its.toArray.isEmpty && Builtin.List.listTooLong (its.toArray.size + its2.toArray.size)) = true := by
    rw [notLongL small]
    simp
  refine call_meets F.slot_list_extend ⟨_, e, rfl⟩ F.entry_list_extend (F.args_list_extend_2 _ _)
    (AutoSeq1.list_extend_list_list_0 l its.toArray n b its2.toArray n2 hlong (by rw [List.size_toArray]; omega) (by omega)) ⟨e, e2, .non, _, I.lset (its' := its ++ its2) hH e (by simp) (r.append r2) ?_, rfl, q⟩
  rw [List.length_append]
  exact hz
theorem extend_ok : MtR X "list.extend" (rBM G .extend) := by
  intro pins s σ H x xs v us Q I rx rxs ⟨w, S, a, ds, st, ra, rs, g⟩
  replace g : GoodN G H w (bExt S a ds) Q := g
  unfold bExt at g
  split at g
  · rename_i l d
    split at g
    · rename_i ys zs hx hz
      split at g
      · rename_i hl
        obtain ⟨p, us', rfl, hp, hu, rs', ht, hf⟩ := lst_place st ra hx
        obtain ⟨y, rfl, ry⟩ := one_rep rs
        obtain ⟨b, vs, rfl, rd, rb⟩ := lst_at st ry hz
        have ex := Ext.write (o := .lst (us' ++ vs)) st hp ht hf
        exact mt_extR pins s σ H _ _ v us Q I rx rxs ⟨p, b, us', vs, rfl, rfl, hu, rd, by rw [Reps.length rs', Reps.length rb]; have := big_line; omega,
          g w .non _ ex (st.write hp ht hf ⟨_, upd_same, Reps.append (Reps.mono ex _ _ rs') (Reps.mono ex _ _ rb)⟩) rfl⟩
      · exact g.elim
    · exact g.elim
  · exact g.elim
theorem indexOf_spec {x : D} : ∀ {ys : List D} {i : Nat}, indexOf? x ys = some i → ∃ z, ys[i]? = some z ∧ eqv z x = true ∧ ∀ (m : Nat) z', m < i → ys[m]? = some z' → eqv z' x = false
  | [], i, h => by cases h
  | y :: ys, i, h => by
    unfold indexOf? at h
    split at h
    · rename_i e
      cases h
      exact ⟨y, rfl, e, fun m z' hm => by omega⟩
    · rename_i e
      obtain ⟨j, hj, rfl⟩ := Option.map_eq_some_iff.mp h
      obtain ⟨z, h1, h2, h3⟩ := indexOf_spec hj
      refine ⟨z, by simpa using h1, h2, fun m z' hm hz => ?_⟩
      cases m with
      | zero =>
        obtain rfl : y = z' := by simpa using hz
        simpa using e
      | succ m => exact h3 m z' (by omega) (by simpa using hz)
theorem lindex_ok (hu : X.A.units + 20 < cLine) : MtR X "list.index" (rBM G .index) := by
  intro pins s σ H x xs v us Q I rx rxs ⟨w, S, a, ds, st, ra, rs, g⟩
  replace g : GoodN G H w (bIdx S a ds) Q := g
  unfold bIdx at g
  split at g
  · rename_i d
    split at g
    · rename_i ys hx
      split at g
      · rename_i hfl
        simp only [Bool.and_eq_true] at hfl
        split at g
        · rename_i i hi
          obtain ⟨p, us', rfl, rd, rs'⟩ := lst_at st ra hx
          obtain ⟨y, rfl, ry⟩ := one_rep rs
          cases rx
          obtain ⟨u, rfl, ru⟩ := rxs.one
          obtain ⟨_, its, n, r, hl, e⟩ := lst_obj I rd
          have ea := each_of I (A := X.A.in1) (by show X.A.units + 1 + 9 < cLine; omega) hfl.1 ry ru hfl.2 rs' r
          obtain ⟨z, h1, h2, h3⟩ := indexOf_spec hi
          have at_ : ∀ (m : Nat) (hm : m < its.length) z', ys[m]? = some z' → eqFun G H w d its[m] = eqv z' d := fun m hm z' hz => by
            obtain ⟨u', hu', ru'⟩ := Reps.get rs' hz
            obtain ⟨v', hv', rv'⟩ := r.get hu'
            rw [List.getElem?_eq_getElem hm] at hv'
            obtain rfl := Option.some.inj hv'
            exact eqFun_of ru' rv' (by
              have := flats_at (j := m) hfl.2 (List.getElem?_eq_some_iff.mp hz).1
              rw [List.getD_eq_getElem?_getD, hz] at this
              exact this)
          have hlen : its.length = ys.length := hl.trans (Reps.length rs')
          have hj : i < its.length := by
            rw [hlen]
            exact (List.getElem?_eq_some_iff.mp h1).1
          refine call_meets PySem.F.slot_list_index ⟨_, e, rfl⟩ PySem.F.entry_list_index (PySem.F.args_list_index_2 _ _)
            (SeqAt.list_indexAt p its.toArray n none #[] u (eqFun G H w d) i (by simpa using hj) (by have := sizeLine_eq; simp; omega) ?_ ?_) ⟨e, fun z hz => ea z (by simpa using hz), ?_⟩
          · have := at_ i hj z h1
            simpa [this] using h2
          · intro m hm hmi
            have hm2 : m < its.length := by omega
            have hm3 : m < ys.length := by omega
            have := at_ m hm2 _ (List.getElem?_eq_getElem hm3)
            have h4 := h3 m _ hmi (List.getElem?_eq_getElem hm3)
            simpa [this] using h4
          · exact ⟨.int (i : Nat), H, I.tok _, ⟨_, rfl⟩, GoodV.here g st rfl⟩
        · exact g.elim
      · exact g.elim
    · exact g.elim
  · exact g.elim
theorem lcount_ok (hu : X.A.units + 20 < cLine) : MtR X "list.count" (rBM G .count) := by
  intro pins s σ H x xs v us Q I rx rxs ⟨w, S, a, ds, st, ra, rs, g⟩
  replace g : GoodN G H w (bCnt S a ds) Q := g
  unfold bCnt at g
  split at g
  · rename_i d
    split at g
    · rename_i ys hx
      split at g
      · rename_i hfl
        simp only [Bool.and_eq_true] at hfl
        obtain ⟨p, us', rfl, rd, rs'⟩ := lst_at st ra hx
        obtain ⟨y, rfl, ry⟩ := one_rep rs
        cases rx
        obtain ⟨u, rfl, ru⟩ := rxs.one
        obtain ⟨_, its, n, r, hl, e⟩ := lst_obj I rd
        have ea := each_of I (A := X.A.in1) (by show X.A.units + 1 + 9 < cLine; omega) hfl.1 ry ru hfl.2 rs' r
        have ec : ∀ {ys : List D} {us' : List V} {its : List Value}, flats 9 ys = true → Reps G H w ys us' → Vals us' its → its.countP (eqFun G H w d) = ys.countP fun y => eqv y d := by
          intro ys
          induction ys with
          | nil =>
            intro us' its _ h r
            have h : us' = [] := h
            subst h
            cases r; rfl
          | cons y ys ih =>
            intro us' its f h r
            obtain ⟨u, r', e, p, q⟩ := h
            subst e
            cases r with
            | cons h t =>
              simp only [flats, Bool.and_eq_true] at f
              rw [List.countP_cons, List.countP_cons, ih f.2 q t, eqFun_of p h f.1]
        refine call_meets PySem.F.slot_list_count ⟨_, e, rfl⟩ PySem.F.entry_list_count (PySem.F.args_list_count_2 _ _)
          (SeqAt.list_countAt p its.toArray n none #[] u (eqFun G H w d)) ⟨e, fun z hz => ea z (by simpa using hz), ?_⟩
        refine ⟨.int (ys.countP fun y => eqv y d : Nat), H, I.tok _, ⟨s.toks, ?_⟩, GoodV.here g st rfl⟩
        rw [← ec hfl.2 rs' r]
      · exact g.elim
    · exact g.elim
  · exact g.elim
theorem get_ok (hu : X.A.units + 20 < cLine) : MtR X "dict.get" (rBM G .get) := by
  intro pins s σ H x xs v us Q I rx rxs ⟨w, S, a, ds, st, ra, rs, g⟩
  replace g : GoodN G H w (bGet S a ds) Q := g
  unfold bGet at g
  split at g
  · rename_i k
    split at g
    · rename_i kvs hx
      split at g
      · rename_i ok
        obtain ⟨p, rfl, d⟩ := dct_at st ra hx
        obtain ⟨y, rfl, ry⟩ := one_rep rs
        cases rx
        obtain ⟨u, rfl, ru⟩ := rxs.one
        by_cases ne : kvs = []
        · subst ne
          obtain ⟨na, h⟩ := empty_of I st d ok ry ru
          rcases h with ⟨k', h1, h2⟩ | ⟨ks, b, rfl, h1, h2⟩
          · exact call_meetsIn PySem.F.slot_dict_get h2.typeIs PySem.F.entry_dict_get (PySem.F.args_dict_get_2 _ _) (meets_dict_get (mixKind X.prog X.w) p h1 na) ⟨_, h2.mapOf, .non, H, I.tok _, rfl, GoodV.here g st rfl⟩
          · exact call_meetsIn PySem.F.slot_dict_get h2.typeIs PySem.F.entry_dict_get (PySem.F.args_dict_get_2 _ _) (meetsH_dict_get (tupleKind (mixKind X.prog X.w)) p b na) ⟨tupleKind_room_in1 (by omega), ks, [], h1, h2, .non, H, I.tok _, rfl, GoodV.here g st rfl⟩
        · have gg := dget_of st d ok ry ne
          cases e : dget kvs k with
          | none =>
            rw [e] at g
            exact d_get1 (by omega) I (gg.2 e) ru fun w' s' I' r => ⟨.non, H, I', r, GoodV.here g st rfl⟩
          | some z =>
            rw [e] at g
            obtain ⟨vz, rz, g1⟩ := gg.1 z e
            exact d_get1 (by omega) I g1 ru fun w' s' I' r => ⟨vz, H, I', r, GoodV.here g st rz⟩
      · exact g.elim
    · exact g.elim
  · rename_i k dd
    split at g
    · rename_i kvs hx
      split at g
      · rename_i ok
        obtain ⟨p, rfl, d⟩ := dct_at st ra hx
        obtain ⟨y, z2, rfl, ry, rz2⟩ := two_rep rs
        cases rx
        obtain ⟨u, u2, rfl, ru, ru2⟩ := vals2 rxs
        by_cases ne : kvs = []
        · subst ne
          obtain ⟨na, h⟩ := empty_of I st d ok ry ru
          rcases h with ⟨k', h1, h2⟩ | ⟨ks, b, rfl, h1, h2⟩
          · exact call_meetsIn PySem.F.slot_dict_get h2.typeIs PySem.F.entry_dict_get (PySem.F.args_dict_get_3 _ _ _) (meets_dict_get_default (mixKind X.prog X.w) p h1 na u2) ⟨_, h2.mapOf, z2, H, I.tok _, ru2, GoodV.here g st rz2⟩
          · exact call_meetsIn PySem.F.slot_dict_get h2.typeIs PySem.F.entry_dict_get (PySem.F.args_dict_get_3 _ _ _) (meetsH_dict_get_default (tupleKind (mixKind X.prog X.w)) p b na u2) ⟨tupleKind_room_in1 (by omega), ks, [], h1, h2, z2, H, I.tok _, ru2, GoodV.here g st rz2⟩
        · have gg := dget_of st d ok ry ne
          cases e : dget kvs k with
          | none =>
            rw [e] at g
            exact d_get2 (by omega) I (gg.2 e) ru ru2 fun w' s' I' r => ⟨z2, H, I', r, GoodV.here g st rz2⟩
          | some z =>
            rw [e] at g
            obtain ⟨vz, rz, g1⟩ := gg.1 z e
            exact d_get2 (by omega) I g1 ru ru2 fun w' s' I' r => ⟨vz, H, I', r, GoodV.here g st rz⟩
      · exact g.elim
    · exact g.elim
  · exact g.elim
/-- a dict's place, of the kind that a key wants -/
structure AtT (G : AMap) (X : Cx) (pins : List (Addr × Obj)) (σ : L2.St) (s : Shared) (H : Hp) (w : Wd) (kvs : List (D × D)) (ks : List L2.Key) (a b : Addr) (H0 : Hp) (L : List (List L2.Key × V)) : Prop where
  inv : Inv X pins σ H0 s
  at_ : H0 a = some (.dT L)
  key : H0 b = some (.tup (ks.map kV))
  rep : RepT G H w kvs L
  up : ∀ o, L2.upd H0 a o = L2.upd H a o
  back : ∀ s', Inv X pins σ H0 s' → Inv X pins σ H s'
structure AtK (G : AMap) (X : Cx) (pins : List (Addr × Obj)) (σ : L2.St) (s : Shared) (H : Hp) (w : Wd) (kvs : List (D × D)) (a : Addr) (H0 : Hp) (L : List (L2.Key × V)) : Prop where
  inv : Inv X pins σ H0 s
  at_ : H0 a = some (.dK L)
  rep : RepK G H w kvs L
  up : ∀ o, L2.upd H0 a o = L2.upd H a o
  back : ∀ s', Inv X pins σ H0 s' → Inv X pins σ H s'
theorem upd_self {a : Addr} {u : HO} (h : H a = some u) : L2.upd H a u = H := by
  funext b
  by_cases e : b = a
  · rw [e, upd_same, h]
  · rw [upd_ne e]
theorem dct_place (I : Inv X pins σ H s) {l : Nat} {kvs : List (D × D)} {k : D} {x y : V} (st : StoR G w S H) (ra : Rep G H w (.loc l) x) (hx : S[l]? = some (.dct kvs)) (ok : keysOk kvs k = true) (rk : Rep G H w k y) :
    ∃ a, x = .ref a ∧ w.ph[l]? = some a ∧ (∀ us', H a ≠ some (.tup us')) ∧ (∀ x u, H a ≠ some (.frz x u)) ∧
      ((∃ ks b H0 L, k = .tup (ks.map kD) ∧ y = .ref b ∧ AtT G X pins σ s H w kvs ks a b H0 L) ∨ ∃ ks H0 L, k = kD ks ∧ y = kV ks ∧ AtK G X pins σ s H w kvs a H0 L) := by
  obtain ⟨a, rfl, hp⟩ := ra
  obtain ⟨ob, h1, h2⟩ := st.ob l a hp
  rw [hx] at h1
  obtain rfl := Option.some.inj h1
  refine ⟨a, rfl, hp, fun us' z => ?_, fun x u z => ?_, ?_⟩
  · rcases h2 with ⟨L, hL, _⟩ | ⟨L, hL, _⟩ | ⟨L, hL, _⟩ <;> (rw [hL] at z; cases z)
  · rcases h2 with ⟨L, hL, _⟩ | ⟨L, hL, _⟩ | ⟨L, hL, _⟩ <;> (rw [hL] at z; cases z)
  unfold keysOk at ok
  simp only [Bool.and_eq_true, Bool.or_eq_true] at ok
  obtain ⟨o1, o2⟩ := ok
  rcases o2 with ⟨o2, o3⟩ | ⟨o2, o3⟩
  · left
    obtain ⟨ks, rfl⟩ := keyT_ex o2
    obtain ⟨b, rfl, hb⟩ := rep_tkey st rk o1
    rcases h2 with ⟨L, hL, rL⟩ | ⟨L, hL, rL⟩ | ⟨L, hL, mx, rL⟩
    rotate_left 2
    · exact (mixd_T mx o3).elim
    · exact ⟨ks, b, H, L, rfl, rfl, I, hL, hb, rL, fun _ => rfl, fun _ z => z⟩
    · have e : kvs = [] := by
        cases kvs with
        | nil => rfl
        | cons p r =>
          have h1 := repK_keys rL
          simp only [List.all_cons, Bool.and_eq_true] at o3 h1
          exact (keyTK o3.1 h1.1).elim
      subst e
      have e : L = [] := rL
      subst e
      have hab : b ≠ a := fun z => by subst z; rw [hL] at hb; cases hb
      exact ⟨ks, b, _, [], rfl, rfl, swapT I hL, upd_same, by rw [upd_ne hab]; exact hb, rfl, fun _ => upd_upd, fun s' z => by
        have := swapK z upd_same
        rw [upd_upd, upd_self hL] at this
        exact this⟩
  · right
    obtain ⟨ks, rfl⟩ := keyK_ex o2
    obtain rfl := rep_key rk
    rcases h2 with ⟨L, hL, rL⟩ | ⟨L, hL, rL⟩ | ⟨L, hL, mx, rL⟩
    rotate_left 2
    · exact (mixd_K mx o3).elim
    · have e : kvs = [] := by
        cases kvs with
        | nil => rfl
        | cons p r =>
          have h1 := repT_keys rL
          simp only [List.all_cons, Bool.and_eq_true] at o3 h1
          exact (keyTK h1.1 o3.1).elim
      subst e
      have e : L = [] := rL
      subst e
      exact ⟨ks, _, [], rfl, rfl, swapK I hL, upd_same, rfl, fun _ => upd_upd, fun s' z => by
        have := swapT z upd_same
        rw [upd_upd, upd_self hL] at this
        exact this⟩
    · exact ⟨ks, H, L, rfl, rfl, I, hL, rL, fun _ => rfl, fun _ z => z⟩
theorem setd_ok (hu : X.A.units + 20 < cLine) (hw : G.wo = X.w) : MtR X "dict.setdefault" (rBM G .setdefault) := by
  intro pins s σ H x xs v us Q I rx rxs ⟨w, S, a, ds, st, ra, rs, g⟩
  replace g : GoodN G H w (bSetd S a ds) Q := g
  unfold bSetd at g
  split at g
  · rename_i l k d
    split at g
    · rename_i kvs hx
      split at g
      · rename_i hc
        simp only [Bool.and_eq_true, decide_eq_true_eq] at hc
        obtain ⟨ok, hl⟩ := hc
        obtain ⟨y, z, rfl, ry, rz⟩ := two_rep rs
        obtain ⟨p, rfl, hp, ht, hf, place⟩ := dct_place I st ra hx ok ry
        cases rx
        obtain ⟨u, u2, rfl, ru, ru2⟩ := vals2 rxs
        have big := big_line
        rcases place with ⟨ks, b, H0, L, rfl, rfl, A⟩ | ⟨ks, H0, L, rfl, rfl, A⟩
        · cases ru
          obtain ⟨z1, hd, xs, rel, dd⟩ := dt_of A.inv.hok A.at_
          have hz : xs.length ≤ sizeLine := by rw [← Paired.length rel]; exact z1
          have hg := repT_get ks A.rep
          have rv := rel.val ks
          refine call_setdefault_heap (hsz := hz) (tupleKind_room_in1 (by omega)) (key_of A.inv.hok A.key) hd dd (fun pr hpr => ?_) fun hn h' dd' hs => ?_
          · cases e : dget kvs (.tup (ks.map kD)) with
            | none =>
              rw [hg.2 e, hpr] at rv
              exact (show False from rv).elim
            | some vz =>
              rw [e] at g
              obtain ⟨v0, e0, r0⟩ := hg.1 vz e
              rw [e0, hpr] at rv
              exact ⟨v0, H, A.back _ (A.inv.tok _), rv, GoodV.here g st r0⟩
          · cases e : dget kvs (.tup (ks.map kD)) with
            | some vz =>
              obtain ⟨v0, e0, r0⟩ := hg.1 vz e
              rw [e0, hn] at rv
              exact (show False from rv).elim
            | none =>
              rw [e] at g
              have hlen : (putK L ks z).length ≤ sizeLine := by
                have := length_putK L ks z
                have := RepT.length A.rep
                omega
              obtain ⟨q, es, ep, hq, h2, h3, h4, _, h5⟩ := dd'
              have I2 : Inv X pins σ (L2.upd H0 p (.dT (putK L ks z))) { s with heap := h', toks := s.toks + (tupleKind (mixKind X.prog X.w)).draws ks } :=
                d_write A.inv (by rw [A.at_]; exact True.intro) hs ⟨q, hq⟩ ⟨hlen, hd, _, (rel.put ks A.key ru2).keeps fun c ys ec => by
                  rw [upd_ne (ne_of ec A.at_ (fun z => nomatch z))]
                  exact ec, q, es, ep, hq, h2, h3, h4, h5⟩
              rw [A.up] at I2
              have ex := Ext.write (o := .dT (putK L ks z)) st hp ht hf
              exact ⟨z, _, I2, ru2, g w z _ ex (st.write hp ht hf (.inl ⟨_, upd_same, repT_put (RepT.mono ex _ _ A.rep) (rz.mono ex)⟩)) (rz.mono ex)⟩
        · have hg := repK_get ks A.rep
          refine d_setd A.inv A.at_ ru ru2 (by have := RepK.length A.rep; omega) (fun v0 e0 w' s' I' r => ?_) fun e0 w' s' I' r => ?_
          · cases e : dget kvs (kD ks) with
            | none => rw [hg.2 e] at e0; cases e0
            | some vz =>
              rw [e] at g
              obtain ⟨v1, e1, r1⟩ := hg.1 vz e
              obtain rfl : v1 = v0 := Option.some.inj (e1.symm.trans e0)
              exact ⟨v1, H, A.back _ I', r, GoodV.here g st r1⟩
          · cases e : dget kvs (kD ks) with
            | some vz =>
              obtain ⟨v1, e1, r1⟩ := hg.1 vz e
              rw [e1] at e0; cases e0
            | none =>
              rw [e] at g
              rw [A.up] at I'
              have ex := Ext.write (o := .dK (putK L ks z)) st hp ht hf
              exact ⟨z, _, I', r, g w z _ ex (st.write hp ht hf (.inr (.inl ⟨_, upd_same, repK_put (RepK.mono ex _ _ A.rep) (rz.mono ex)⟩))) (rz.mono ex)⟩
      · rename_i nk
        split at g
        · rename_i hc
          simp only [Bool.and_eq_true, decide_eq_true_eq] at hc
          obtain ⟨mo, hl⟩ := hc
          obtain ⟨y, z, rfl, ry, rz⟩ := two_rep rs
          obtain ⟨p, H0, L, rfl, hp, ht, hf, I0, h0, rM, up, same⟩ := mx_place hw I st ra hx
          cases rx
          obtain ⟨u, u2, rfl, ru, ru2⟩ := vals2 rxs
          unfold mixOk at mo
          simp only [Bool.and_eq_true, Bool.or_eq_true] at mo
          obtain ⟨m1, m2, m3⟩ := mo
          obtain ⟨m, rfl, rfl, tm⟩ := mkey_of st m1 m2 ry
          have big := big_line
          have nk2 : keysOk kvs (mD m) = false := by
            cases e : keysOk kvs (mD m) with
            | false => rfl
            | true => exact absurd (by rw [e]; simp [hl]) nk
          have other : (keyT (mD m) = true → (kvs.all fun p => keyT p.1) = false) ∧ (keyK (mD m) = true → (kvs.all fun p => keyK p.1) = false) := by
            unfold keysOk at nk2
            rw [m1, Bool.true_and, Bool.or_eq_false_iff] at nk2
            refine ⟨fun h => ?_, fun h => ?_⟩
            · have := nk2.1
              rw [h, Bool.true_and] at this
              exact this
            · have := nk2.2
              rw [h, Bool.true_and] at this
              exact this
          have tup0 : ∀ b us, H b = some (.tup us) → H0 b = some (.tup us) := fun b us e => by
            have : b ≠ p := fun z => ht us (z ▸ e)
            have q := congrFun (up (mxO G.wo p L)) b
            rw [upd_ne this, upd_ne this] at q
            rw [q]; exact e
          have frz0 : ∀ b o us, H b = some (.frz o (.tup us)) → H0 b = some (.frz o (.tup us)) := fun b o us e => by
            have : b ≠ p := fun z => hf o _ (z ▸ e)
            have q := congrFun (up (mxO G.wo p L)) b
            rw [upd_ne this, upd_ne this] at q
            rw [q]; exact e
          have tR : ∀ {n : MEnt}, TupR H n → TupR H0 n := fun {n} t => by
            cases n with
            | inl k => trivial
            | inr q => exact (show Rd H q.2 _ from t).elim (fun h => .inl (tup0 _ _ h)) fun ⟨o, h⟩ => .inr ⟨o, frz0 _ _ _ h⟩
          have mx := mx_at (P := X.prog) (I0.hok p _ h0)
          rw [hw] at mx
          refine call_setd_mx (by omega) mx (mV_is (P := X.prog) (wo := X.w) ru) (tupOk_of I0 (tR tm)) (fun q hq => tupOk_of I0 (tR (repM_tup rM q hq))) ru2 (by rw [RepM.length rM]; omega) (fun ⟨x, t, e⟩ => ?_) (fun q hq e y2 tk r2 => ?_) fun hn h' tk mx2 sb => ?_
          · subst e
            cases m with
            | inr q => exact nomatch (show (Value.str x t) = Value.ref q.2 from ru)
            | inl k =>
              have ek : keyK (mD (.inl k)) = true := by cases k <;> rfl
              have := other.2 ek
              obtain ⟨pr, hpr, hk⟩ := List.all_eq_false.mp this
              obtain ⟨j, hj⟩ := List.mem_iff_getElem?.mp hpr
              have e1 := repM_at rM j
              rw [List.getElem?_map, hj] at e1
              obtain ⟨qe, h1, h2⟩ := Option.map_eq_some_iff.mp e1.symm
              refine ⟨qe, List.mem_of_getElem? h1, ?_⟩
              cases hq : qe.1 with
              | inr q => exact ⟨q, rfl⟩
              | inl k2 =>
                rw [hq] at h2
                have h2 : mD (.inl k2) = pr.1 := h2
                rw [← h2] at hk
                cases k2 <;> simp [mD, kD, keyK] at hk
          · cases e1 : dget kvs (mD m) with
            | none => exact absurd e ((repM_get m rM).2 e1 q hq)
            | some vz =>
              rw [e1] at g
              obtain ⟨q2, hq2, e2, r0⟩ := (repM_get m rM).1 vz e1
              have eq : q2 = q := by
                obtain ⟨i, hi⟩ := List.mem_iff_getElem?.mp hq
                obtain ⟨j, hj⟩ := List.mem_iff_getElem?.mp hq2
                obtain ⟨_, _, _, _, _, _, _, _, _, nd⟩ := mx
                have := key_once nd hi hj (e.trans e2.symm)
                subst this
                rw [hi] at hj
                exact (Option.some.inj hj).symm
              subst eq
              have md : mixd kvs = true := by
                have mem : ∃ pr ∈ kvs, pr.1 = mD m := by
                  obtain ⟨pr, hpr, _⟩ := Option.map_eq_some_iff.mp (show (kvs.find? fun p => decide (p.1 = mD m)).map (·.2) = some vz from e1)
                  exact ⟨pr, List.mem_of_find?_eq_some hpr, by simpa using List.find?_some hpr⟩
                obtain ⟨pr, hpr, ek⟩ := mem
                unfold mixd
                rcases m2 with m2 | m2
                · rw [other.1 m2]
                  have : (kvs.all fun p => keyK p.1) = false := List.all_eq_false.mpr ⟨pr, hpr, by rw [ek]; intro z; exact keyTK m2 z⟩
                  rw [this]; rfl
                · rw [other.2 m2]
                  have : (kvs.all fun p => keyT p.1) = false := List.all_eq_false.mpr ⟨pr, hpr, by rw [ek]; intro z; exact keyTK z m2⟩
                  rw [this]; rfl
              have e0 := same md
              subst e0
              exact ⟨q2.2, H0, I0.tok _, r2, GoodV.here g st r0⟩
          · cases e1 : dget kvs (mD m) with
            | some vz =>
              obtain ⟨q2, hq2, e2, r0⟩ := (repM_get m rM).1 vz e1
              exact absurd e2 (hn q2 hq2)
            | none =>
              rw [e1] at g
              have I2 : Inv X pins σ (L2.upd H0 p (mxO G.wo p (L ++ [(m, z)]))) { s with heap := h', toks := tk } := by
                have mx3 := mx2
                obtain ⟨_, _, q, es, ep, hq, _⟩ := mx3
                refine d_write I0 (by rw [h0]; exact True.intro) sb ⟨q, hq⟩ (mx_ok (P := X.prog) ?_)
                rw [hw]
                exact mx2
              rw [up] at I2
              have ex := Ext.write (o := mxO G.wo p (L ++ [(m, z)])) st hp ht hf
              have md : mixd (kvs ++ [(mD m, d)]) = true := by
                unfold mixd
                rcases m2 with m2 | m2
                · have h1 := other.1 m2
                  have h3 : keyK (mD m) = false := by
                    cases q : keyK (mD m) with
                    | false => rfl
                    | true => exact (keyTK m2 q).elim
                  rw [List.all_append, List.all_append, h1]
                  simp [h3]
                · have h1 := other.2 m2
                  have h3 : keyT (mD m) = false := by
                    cases q : keyT (mD m) with
                    | false => rfl
                    | true => exact (keyTK q m2).elim
                  rw [List.all_append, List.all_append, h1]
                  simp [h3]
              exact ⟨z, _, I2, ru2, g w z _ ex (st.write hp ht hf (.inr (.inr ⟨_, upd_same, md, repM_app (RepM.mono ex _ _ rM) (tm.mono ex) (rz.mono ex)⟩)) (by intro x us z; cases z)) (rz.mono ex)⟩
        · exact g.elim
    · exact g.elim
  · exact g.elim
theorem repT_drop : ∀ {kvs : List (D × D)} {L : List (List L2.Key × V)} (ks : List L2.Key), RepT G H w kvs L → RepT G H w (ddel kvs (.tup (ks.map kD))) (dropK L ks)
  | [], L, ks, h => by
    have h : L = [] := h
    subst h
    exact rfl
  | (k, d) :: r, _, ks, ⟨ks', u, L', e1, e2, a, b⟩ => by
    subst e1 e2
    have ih := repT_drop ks b
    unfold ddel dropK at ih ⊢
    by_cases hk : ks' = ks
    · subst hk
      simpa using ih
    · have hne : ¬ (D.tup (ks'.map kD) = D.tup (ks.map kD)) := fun z => hk (kDs_inj (by injection z))
      rw [List.filter_cons_of_pos (by simpa using hne), List.filter_cons_of_pos (by simpa using hk)]
      exact ⟨ks', u, _, rfl, rfl, a, ih⟩
theorem repK_drop : ∀ {kvs : List (D × D)} {L : List (L2.Key × V)} (ks : L2.Key), RepK G H w kvs L → RepK G H w (ddel kvs (kD ks)) (dropK L ks)
  | [], L, ks, h => by
    have h : L = [] := h
    subst h
    exact rfl
  | (k, d) :: r, _, ks, ⟨ks', u, L', e1, e2, a, b⟩ => by
    subst e1 e2
    have ih := repK_drop ks b
    unfold ddel dropK at ih ⊢
    by_cases hk : ks' = ks
    · subst hk
      simpa using ih
    · have hne : ¬ (kD ks' = kD ks) := fun z => hk (kD_inj z)
      rw [List.filter_cons_of_pos (by simpa using hne), List.filter_cons_of_pos (by simpa using hk)]
      exact ⟨ks', u, _, rfl, rfl, a, ih⟩
theorem pop_ok (hu : X.A.units + 20 < cLine) : MtR X "dict.pop" (rBM G .pop) := by
  intro pins s σ H x xs v us Q I rx rxs ⟨w, S, a, ds, st, ra, rs, g⟩
  replace g : GoodN G H w (bPop S a ds) Q := g
  unfold bPop at g
  split at g
  · rename_i l k
    split at g
    · rename_i kvs hx
      split at g
      · rename_i ok
        split at g
        · rename_i vz e
          obtain ⟨y, rfl, ry⟩ := one_rep rs
          obtain ⟨p, rfl, hp, ht, hf, place⟩ := dct_place I st ra hx ok ry
          cases rx
          obtain ⟨u, rfl, ru⟩ := rxs.one
          rcases place with ⟨ks, b, H0, L, rfl, rfl, A⟩ | ⟨ks, H0, L, rfl, rfl, A⟩
          · cases ru
            obtain ⟨z1, hd, xs, rel, dd⟩ := dt_of A.inv.hok A.at_
            have hz : xs.length ≤ sizeLine := by rw [← Paired.length rel]; exact z1
            obtain ⟨v0, e0, r0⟩ := (repT_get ks A.rep).1 vz e
            have rv := rel.val ks
            rw [e0] at rv
            cases hpr : atKey xs ks with
            | none =>
              rw [hpr] at rv
              exact (show False from rv).elim
            | some pr =>
              rw [hpr] at rv
              refine call_pop_heap (hsz := hz) (.inl rfl) (PySem.F.args_dict_pop_2 _ _) (tupleKind_room_in1 (by omega)) (key_of A.inv.hok A.key) hd dd hpr fun h' dd' hs => ?_
              obtain ⟨q, es, ep, hq, h2, h3, h4, _, h5⟩ := dd'
              have I2 : Inv X pins σ (L2.upd H0 p (.dT (dropK L ks))) { s with heap := h', toks := s.toks + (tupleKind (mixKind X.prog X.w)).draws ks } :=
                d_write A.inv (by rw [A.at_]; exact True.intro) hs ⟨q, hq⟩ ⟨Nat.le_trans (dropK_le L ks) z1, hd, _, (L2.DX.KT_drop ks rel).keeps fun c ys ec => by
                  rw [upd_ne (ne_of ec A.at_ (fun z => nomatch z))]
                  exact ec, q, es, ep, hq, h2, h3, h4, h5⟩
              rw [A.up] at I2
              have ex := Ext.write (o := .dT (dropK L ks)) st hp ht hf
              exact ⟨v0, _, I2, rv, g w v0 _ ex (st.write hp ht hf (.inl ⟨_, upd_same, repT_drop ks (RepT.mono ex _ _ A.rep)⟩)) (r0.mono ex)⟩
          · obtain ⟨v0, e0, r0⟩ := (repK_get ks A.rep).1 vz e
            refine d_pop A.inv A.at_ ru e0 (.inl rfl) fun w' s' I' r => ?_
            rw [A.up] at I'
            have ex := Ext.write (o := .dK (dropK L ks)) st hp ht hf
            exact ⟨v0, _, I', r, g w v0 _ ex (st.write hp ht hf (.inr (.inl ⟨_, upd_same, repK_drop ks (RepK.mono ex _ _ A.rep)⟩))) (r0.mono ex)⟩
        · exact g.elim
      · exact g.elim
    · exact g.elim
  · exact g.elim
theorem popl_ok : MtR X "list.pop" (rBM G .popl) := by
  intro pins s σ H x xs v us Q I rx rxs ⟨w, S, a, ds, st, ra, rs, g⟩
  replace g : GoodN G H w (bPopl S a ds) Q := g
  unfold bPopl at g
  split at g
  · rename_i l i
    split at g
    · rename_i ys hx
      split at g
      · rename_i j hj
        obtain ⟨p, us', rfl, hp, hu, rs', ht, hf⟩ := lst_place st ra hx
        obtain ⟨y, rfl, ry⟩ := one_rep rs
        cases ry
        have ex := Ext.write (o := .lst (us'.eraseIdx j)) st hp ht hf
        obtain ⟨h1, h2, h3, h4⟩ := ixN_seq hj
        obtain ⟨z, hz, rz⟩ := Reps.get (i := j) (x := ys[j]) rs' (List.getElem?_eq_getElem h2)
        have hl : us'.length ≤ sizeLine := (lst_obj I (.inl hu)).1
        have hsl := sizeLine_eq
        have hlen := Reps.length rs'
        refine mt_popAt pins s σ H _ _ v us Q I rx rxs ⟨p, us', i, j, z, rfl, rfl, hu, by omega, by omega, by rw [hlen]; exact h1, hz, ?_⟩
        refine g w z _ ex (st.write hp ht hf ⟨_, upd_same, Reps.eraseIdx j (Reps.mono ex _ _ rs')⟩) ?_
        rw [List.getD_eq_getElem?_getD, List.getElem?_eq_getElem h2]
        exact rz.mono ex
      · exact g.elim
    · exact g.elim
  · exact g.elim
end
end Lt
namespace Lt
open PySem L2 PySem.Spec PyProof.Rows
section
variable {K : Type} [DecidableEq K] {prog : Program} {wo : World} {knd : HeapKind prog wo K} {A : Around} {E : Value → Shared → Prop} {s : Shared} {env : Env}
/-- a display whose keys are objects: the new dict stands empty while its pairs are made -/
theorem wp_disp {keys : List (Option Expr)} {values : List Expr} {pos : Pos} {Q : Value → Shared → Prop} (room : knd.room A) (ks : keys.all (·.isSome) = true) (len : keys.length = values.length) (ne : keys ≠ []) (few : keys.length ≤ 15)
    (h : wpAny (model prog wo) A (evalPairs (pairTrees keys values env pos)) (fun vs s1 => ∃ ps, CarriesH knd s1.heap vs ps ∧ s1.heap.DictOfH knd s.heap.objs.size [] ∧
      ∀ g tk, g.DictOfH knd s.heap.objs.size (storedAllH [] ps) → Heap.SameBut s.heap.objs.size s1.heap g → Q (.ref s.heap.objs.size) { s1 with heap := g, toks := tk }) E
      { s with heap := s.heap.push { cls := .type "dict", data := .dict #[] } }) : wpAny (model prog wo) A (eval (.Dict keys values pos) env) Q E s := by
  have hn := pairTrees_length keys values env pos ks len
  have h0 : pairTrees keys values env pos ≠ [] := fun z => ne (List.length_eq_zero_iff.mp (by rw [← hn, z]; rfl))
  rw [arm_eval_Dict, zip_pairTrees keys values env pos ks len, dictDisplay_pairs _ h0 (by omega)]
  refine wpAny_bind (wpAny_standAt (wpAny_bind (wpAny_subDictH (Q := fun d s' => wpAny (model prog wo) A (pure (Value.ref d)) Q E s') room (by omega) (wpAny_mono h (fun vs s1 z => ?_) fun _ _ e => e))))
  obtain ⟨ps, c, m, q⟩ := z
  exact ⟨ps, c, m, fun g tk a b => wpAny_pure (q g tk a b)⟩
end
section
variable {G : AMap} {H H1 H2 : Hp} {w w1 w2 : Wd} {W : XK} {S : Sto}
variable {X : Cx} {pins : List (Addr × Obj)} {σ : L2.St} {s : Shared}
/-- key, value, key, value .. as pairs -/
def pairUp {α : Type} : List α → List (α × α)
  | a :: b :: r => (a, b) :: pairUp r
  | _ => []
/-- one display's pairs, made from the left -/
structure DPs (X : Cx) (G : AMap) (W : XK) (pos : Pos) (keys : List (Option Expr)) (values : List Expr) (f : Slots → Sto → R (List D)) : Prop where
  some_ : keys.all (·.isSome) = true
  len : keys.length = values.length
  run : ∀ (pins : List (Addr × Obj)) (s : Shared) (σ : L2.St) (H : Hp) (Q : List V → Hp → Prop), Inv X pins σ H s → tEVs G W f σ H Q →
    wpAny (model X.prog X.w) X.A (evalPairs (pairTrees keys values X.env pos)) (fun vs s' => ∃ us H', Inv X pins σ H' s' ∧ us.length = 2 * keys.length ∧ VV (pairUp us) vs ∧ Q us H') X.xe s
theorem dps_nil {pos : Pos} : DPs X G W pos [] [] fun _ S => .ok [] S := ⟨rfl, rfl, fun pins s σ H Q I ⟨w, σD, S, sl, st, q⟩ => pairTrees_nil_walk ⟨[], H, I, rfl, .nil, q w [] H (Ext.refl _ _) st Reps.nil⟩⟩
theorem dps_cons {pos : Pos} {k v : Expr} {ks : List (Option Expr)} {vs : List Expr} {fk fv : fE} {fr : Slots → Sto → R (List D)} (hk : PE X k (tEV G W fk)) (hv : PE X v (tEV G W fv)) (hr : DPs X G W pos ks vs fr) :
    DPs X G W pos (some k :: ks) (v :: vs) fun σ S => (fk σ S).bind fun x S1 => ((fv σ S1).bind fun y S2 => (fr σ S2).bind fun r S3 => .ok (y :: r) S3).bind fun r S3 => .ok (x :: r) S3 := by
  refine ⟨by simp [hr.some_], by simp [hr.len], fun pins s σ H Q I ⟨w, σD, S, sl, st, q⟩ => ?_⟩
  dsimp only at q
  cases e1 : fk σD S with
  | bad => rw [e1] at q; exact q.elim
  | exc x S1 =>
    rw [e1] at q
    exact pairTrees_cons_walk (wpAny_mono (hk.run pins s σ H (fun _ _ => False) I ⟨w, σD, S, sl, st, by rw [e1]; exact q⟩) (fun u s1 ⟨x, H1, I1, rx, z⟩ => z.elim) fun _ _ e => e)
  | ok x S1 =>
    rw [e1] at q
    refine pairTrees_cons_walk (thn (hk.run pins s σ H (fun a H1 => ∃ w1, Ext H w H1 w1 ∧ StoR G w1 S1 H1 ∧ Rep G H1 w1 x a) I ⟨w, σD, S, sl, st, by rw [e1]; exact fun w1 a H1 e st r => ⟨w1, e, st, r⟩⟩) fun u s1 ⟨a, H1, I1, ra, w1, ex1, st1, rx⟩ => ?_)
    cases e2 : fv σD S1 with
    | bad => simp only [R.bind, e2] at q; exact q.elim
    | exc y S2 =>
      simp only [R.bind, e2] at q
      exact wpAny_mono (hv.run pins s1 σ H1 (fun _ _ => False) I1 ⟨w1, σD, S1, sl.mono ex1, st1, by rw [e2]; exact GoodX.mono ex1 q⟩) (fun u s1 ⟨x, H1, I1, rx, z⟩ => z.elim) fun _ _ e => e
    | ok y S2 =>
      refine thn (hv.run pins s1 σ H1 (fun a H2 => ∃ w2, Ext H1 w1 H2 w2 ∧ StoR G w2 S2 H2 ∧ Rep G H2 w2 y a) I1 ⟨w1, σD, S1, sl.mono ex1, st1, by rw [e2]; exact fun w2 a H2 e st r => ⟨w2, e, st, r⟩⟩) fun u2 s2 ⟨b, H2, I2, rb, w2, ex2, st2, ry⟩ => ?_
      cases e3 : fr σD S2 with
      | bad => simp only [R.bind, e2, e3] at q; exact q.elim
      | exc z S3 =>
        simp only [R.bind, e2, e3] at q
        exact wpAny_mono (hr.run pins s2 σ H2 (fun _ _ => False) I2 ⟨w2, σD, S2, sl.mono (ex1.trans ex2), st2, by rw [e3]; exact GoodX.mono (ex1.trans ex2) q⟩) (fun u s1 ⟨x, H1, I1, _, rx, z⟩ => z.elim) fun _ _ e => e
      | ok r S3 =>
        simp only [R.bind, e2, e3] at q
        refine thn (hr.run pins s2 σ H2 (fun vs H3 => ∃ w3, Ext H2 w2 H3 w3 ∧ StoR G w3 S3 H3 ∧ Reps G H3 w3 r vs) I2 ⟨w2, σD, S2, sl.mono (ex1.trans ex2), st2, by rw [e3]; exact fun w3 a H3 e st r => ⟨w3, e, st, r⟩⟩) fun ws s3 ⟨us, H3, I3, hl, rel, w3, ex3, st3, rr⟩ => ?_
        exact ⟨a :: b :: us, H3, I3, by simp [hl]; omega, .cons ⟨ra, rb⟩ rel, q w3 _ H3 ((ex1.trans ex2).trans ex3) st3 (Reps.cons (rx.mono (ex2.trans ex3)) (Reps.cons (ry.mono ex3) rr))⟩
theorem DPs.eq {pos : Pos} {keys : List (Option Expr)} {values : List Expr} {f g : Slots → Sto → R (List D)} (h : DPs X G W pos keys values f) (q : ∀ σ S, g σ S = f σ S) : DPs X G W pos keys values g := by
  have : g = f := by funext σ S; exact q σ S
  rw [this]; exact h
/-- the keys of a display are tuples: what is carried -/
theorem carryT : ∀ {n : Nat} {ds : List D} {us : List V} {ws : List (Value × Value)} {acc kvs : List (D × D)}, ds.length ≤ n → us.length = ds.length → StoR G w S H → Inv X pins σ H s → Reps G H w ds us → VV (pairUp us) ws → pairsD acc ds = some kvs → acc.length + ds.length ≤ 400 →
    (∀ k v r, ds = k :: v :: r → keyT k = true ∧ acc.all (fun p => keyT p.1) = true) →
    ∃ (q : List (List L2.Key × V)) (r : List (List L2.Key × Addr × Value)), CarriesH (tupleKind (mixKind X.prog X.w)) s.heap ws r ∧
      ∀ L xs, RepT G H w acc L → KT H L xs → ∃ L', RepT G H w kvs L' ∧ KT H L' (storedAllH xs r) ∧ L'.length ≤ L.length + ds.length := by
  intro n
  induction n with
  | zero =>
    intro ds us ws acc kvs hn hl st I rs vv hp ha hk
    have e : ds = [] := List.length_eq_zero_iff.mp (by omega)
    subst e
    have e : us = [] := rs
    subst e
    cases vv
    cases hp
    exact ⟨[], [], trivial, fun L xs rt kt => ⟨L, rt, kt, by simp⟩⟩
  | succ n ih =>
    intro ds us ws acc kvs hn hl st I rs vv hp ha hk
    match ds, rs, hp, hk with
    | [], rs, hp, hk =>
      have e : us = [] := rs
      subst e
      cases vv
      cases hp
      exact ⟨[], [], trivial, fun L xs rt kt => ⟨L, rt, kt, by simp⟩⟩
    | [d], rs, hp, hk => cases hp
    | k :: v :: r, rs, hp, hk =>
      obtain ⟨a, _, rfl, ra, b, us2, rfl, rb, rr⟩ := rs
      cases vv with
      | cons h1 vv =>
        rename_i wv ws
        obtain ⟨wk, wval⟩ := wv
        obtain ⟨hk1, hk2⟩ := h1
        unfold pairsD at hp
        split at hp
        · rename_i hc
          simp only [Bool.and_eq_true, decide_eq_true_eq] at hc
          obtain ⟨ok, _⟩ := hc
          obtain ⟨kt, ka⟩ := hk k v r rfl
          obtain ⟨ks, rfl⟩ := keyT_ex kt
          have o1 : kOk (.tup (ks.map kD)) = true := by
            unfold keysOk at ok
            simp only [Bool.and_eq_true] at ok
            exact ok.1
          obtain ⟨c, rfl, hc⟩ := rep_tkey st ra o1
          cases hk1
          have hlen : (dput acc (.tup (ks.map kD)) v).length ≤ acc.length + 1 := by
            unfold dput
            split
            · simp
            · simp
          have ka2 : (dput acc (.tup (ks.map kD)) v).all (fun p => keyT p.1) = true := by
            rw [List.all_eq_true] at ka ⊢
            intro p hp
            unfold dput at hp
            split at hp
            · obtain ⟨p', hp', e⟩ := List.mem_map.mp hp
              have := ka p' hp'
              split at e <;> (subst e; exact this)
            · rcases List.mem_append.mp hp with hp | hp
              · exact ka p hp
              · obtain rfl : p = _ := by simpa using hp
                exact kt
          have hk3 : ∀ k' v' r', r = k' :: v' :: r' → keyT k' = true ∧ (dput acc (.tup (ks.map kD)) v).all (fun p => keyT p.1) = true := fun k' v' r' e => by
            subst e
            refine ⟨?_, ka2⟩
            unfold pairsD at hp
            split at hp
            · rename_i hc2
              simp only [Bool.and_eq_true, decide_eq_true_eq, keysOk, Bool.or_eq_true] at hc2
              rcases hc2.1.2 with z | z
              · exact z.1
              · exfalso
                have hne : dput acc (.tup (ks.map kD)) v ≠ [] := by
                  unfold dput
                  split
                  · rename_i h
                    intro z
                    have : acc = [] := by simpa using z
                    subst this
                    simp [dhas, dget] at h
                  · simp
                cases hd : dput acc (.tup (ks.map kD)) v with
                | nil => exact hne hd
                | cons p q =>
                  rw [hd] at ka2
                  have z2 := z.2
                  rw [hd] at z2
                  simp only [List.all_cons, Bool.and_eq_true] at ka2 z2
                  exact keyTK ka2.1 z2.1
            · cases hp
          obtain ⟨q2, r2, c2, f2⟩ := ih (ds := r) (us := us2) (ws := ws) (acc := dput acc (.tup (ks.map kD)) v) (kvs := kvs) (by simp at hn; omega) (by simp at hl; omega) st I rr vv hp (by simp at ha; omega) hk3
          refine ⟨(ks, b) :: q2, (ks, c, wval) :: r2, ⟨rfl, rfl, key_of I.hok hc, c2⟩, fun L xs rt kt => ?_⟩
          obtain ⟨L', g1, g2, g3⟩ := f2 (putK L ks b) (storedH xs ks c wval) (repT_put rt rb) (KT.put kt ks hc hk2)
          refine ⟨L', g1, g2, ?_⟩
          have := length_putK L ks b
          simp only [List.length_cons]
          omega
        · cases hp
/-- an object that stands becomes a place -/
theorem StoR.adoptO (st : StoR G w S H) {p : Addr} {ob : Ob} (hl : p ∉ w.ph) (hF : ¬ w.Fz p) (new : ObR G H (w.more p) ob p) : StoR G (w.more p) (S ++ [ob]) H where
  len := by show (w.ph ++ [p]).length = _; rw [List.length_append, List.length_append, st.len]; rfl
  nd := by
    show (w.ph ++ [p]).Nodup
    refine List.nodup_append.mpr ⟨st.nd, by simp, fun a m b hb z => ?_⟩
    obtain rfl : b = p := by simpa using hb
    subst z
    exact hl m
  ob := fun l a e => by
    have e : (w.ph ++ [p])[l]? = some a := e
    rcases Nat.lt_or_ge l w.ph.length with hk | hk
    · rw [List.getElem?_append_left hk] at e
      obtain ⟨o', h1, h2⟩ := st.ob l a e
      exact ⟨o', by rw [List.getElem?_append_left (by rw [← st.len]; exact hk)]; exact h1, h2.like (Like.more _) h2.below⟩
    · have hz : l = w.ph.length := by
        have := (List.getElem?_eq_some_iff.mp e).1
        rw [List.length_append] at this
        simp at this
        omega
      subst hz
      rw [List.getElem?_append_right (Nat.le_refl _)] at e
      obtain rfl : p = a := by simpa using e
      refine ⟨ob, ?_, new⟩
      rw [st.len, List.getElem?_append_right (Nat.le_refl _)]
      simp
  ap := fun a f m => (List.mem_append.mp m).elim (st.ap a f) fun m => by
    obtain rfl : a = p := by simpa using m
    exact hF f
  fz := st.fz
  fr := st.fr
  gd := st.gd
  gg := st.gg
/-- a new dict, told: it stands at p, which nothing stands for yet -/
theorem GoodR.adoptD {H0 : Hp} {w0 : Wd} {m : Bool} {kvs : List (D × D)} {Q : VK} (h : GoodR G H0 w0 W (mkD m kvs S) Q) (e : Ext H0 w0 H w) (st : StoR G w S H) {p : Addr} (h0 : H0 p = none) (hn : p ∉ w0.ph) (hl : p ∉ w.ph) (hF : ¬ w.Fz p)
    (r : DicR G H w kvs p fun u => H p = some u) : Q (.ref p) H := by
  have hp : H p ≠ none := by rcases r with ⟨L, h, _⟩ | ⟨L, h, _⟩ | ⟨L, h, _⟩ <;> (rw [h]; simp)
  unfold mkD at h
  cases m with
  | true =>
    rw [if_pos rfl] at h
    refine h _ _ _ (e.adopt h0) (st.adoptO (ob := .dct kvs) hl hF ?_) ⟨p, rfl, by show (w.ph ++ [p])[S.length]? = _; rw [← st.len]; simp⟩
    rcases r with ⟨L, h, r⟩ | ⟨L, h, r⟩ | ⟨L, h, x, r⟩
    · exact .inl ⟨L, h, RepT.like (Like.more _) _ _ (RepT.below _ _ r) r⟩
    · exact .inr (.inl ⟨L, h, RepK.like (Like.more _) _ _ (RepK.below _ _ r) r⟩)
    · exact .inr (.inr ⟨L, h, x, RepM.like (Like.more _) _ _ (RepM.below _ _ r) r⟩)
  | false =>
    rw [if_neg (by simp)] at h
    refine h _ _ _ (e.adoptF h0 hn) (st.like (Like.froze _) rfl (fun a f z => ?_) fun a f => ?_) ⟨p, rfl, .inr rfl, ?_⟩
    · rcases f with f | f
      · exact st.ap a f z
      · exact hl (f ▸ z)
    · rcases f with f | f
      · exact st.fz a f
      · rw [f]; exact hp
    · rcases r with ⟨L, h, r⟩ | ⟨L, h, r⟩ | ⟨L, h, x, r⟩
      · exact .inl ⟨L, .inl h, RepT.like (Like.froze _) _ _ (RepT.below _ _ r) r⟩
      · exact .inr (.inl ⟨L, .inl h, RepK.like (Like.froze _) _ _ (RepK.below _ _ r) r⟩)
      · exact .inr (.inr ⟨L, .inl h, x, RepM.like (Like.froze _) _ _ (RepM.below _ _ r) r⟩)
/-- {} -/
theorem sd_dct0 {pos : Pos} {m : Bool} : PE X (.Dict [] [] pos) (tEV G W fun σ S => mkD m [] S) := by
  refine pe_imp pe_dnewK fun σ H Q ⟨w, σD, S, sl, st, q⟩ p hp => ?_
  dsimp only at q
  unfold mkD at q
  cases m with
  | true =>
    rw [if_pos rfl] at q
    exact q _ _ _ (Ext.more st hp) (st.more hp (.inr (.inl ⟨[], upd_same, rfl⟩))) (rep_new st)
  | false =>
    rw [if_neg (by simp)] at q
    exact q _ _ _ (Ext.froze st hp) (st.froze hp) ⟨p, rfl, .inr rfl, .inr (.inl ⟨[], .inl upd_same, rfl⟩)⟩
theorem pairsD_kind : ∀ {ds : List D} {acc kvs : List (D × D)}, pairsD acc ds = some kvs → acc.all (fun p => keyT p.1) = true → acc ≠ [] → ∀ k v r, ds = k :: v :: r → keyT k = true := by
  intro ds acc kvs h ha hne k v r e
  subst e
  unfold pairsD at h
  split at h
  · rename_i hc
    simp only [Bool.and_eq_true, decide_eq_true_eq, keysOk, Bool.or_eq_true] at hc
    rcases hc.1.2 with z | z
    · exact z.1
    · cases acc with
      | nil => exact absurd rfl hne
      | cons p q =>
        have z2 := z.2
        simp only [List.all_cons, Bool.and_eq_true] at ha z2
        exact (keyTK ha.1 z2.1).elim
  · cases h
/-- the keys of a display are of both kinds: what is carried -/
theorem carryM : ∀ {n : Nat} {ds : List D} {us : List V} {ws : List (Value × Value)} {acc kvs : List (D × D)}, ds.length ≤ n → us.length = ds.length → StoR G w S H → Inv X pins σ H s → Reps G H w ds us → VV (pairUp us) ws → pairsM acc ds = some kvs →
    mixd kvs = true ∧ ∃ r : List (MEnt × V), Paired EntV r ws ∧ (∀ p ∈ r, TupR H p.1) ∧ (∀ k v q, ds = k :: v :: q → acc = [] → ∃ m z r', r = (.inr m, z) :: r') ∧ r.length ≤ ds.length ∧ (ds = [] → kvs = acc) ∧
      ∀ L, RepM G H w acc L → (L.map fun p => mK p.1).Nodup → RepM G H w kvs (L ++ r) ∧ ((L ++ r).map fun p => mK p.1).Nodup := by
  intro n
  induction n with
  | zero =>
    intro ds us ws acc kvs hn hl st I rs vv hp
    have e : ds = [] := List.length_eq_zero_iff.mp (by omega)
    subst e
    have e : us = [] := rs
    subst e
    cases vv
    unfold pairsM at hp
    split at hp
    · rename_i hm
      cases hp
      exact ⟨hm, [], .nil, (fun p z => by cases z), (fun _ _ _ z => by cases z), by simp, fun _ => rfl, fun L a b => by rw [List.append_nil]; exact ⟨a, b⟩⟩
    · cases hp
  | succ n ih =>
    intro ds us ws acc kvs hn hl st I rs vv hp
    match ds, rs, hp with
    | [], rs, hp =>
      have e : us = [] := rs
      subst e
      cases vv
      unfold pairsM at hp
      split at hp
      · rename_i hm
        cases hp
        exact ⟨hm, [], .nil, (fun p z => by cases z), (fun _ _ _ z => by cases z), by simp, fun _ => rfl, fun L a b => by rw [List.append_nil]; exact ⟨a, b⟩⟩
      · cases hp
    | [d], rs, hp => cases hp
    | k :: v :: r, rs, hp =>
      obtain ⟨a, _, rfl, ra, b, us2, rfl, rb, rr⟩ := rs
      cases vv with
      | cons h1 vv =>
        rename_i wv ws
        obtain ⟨wk, wval⟩ := wv
        obtain ⟨hk1, hk2⟩ := h1
        unfold pairsM at hp
        split at hp
        · rename_i hc
          simp only [Bool.and_eq_true, Bool.or_eq_true, decide_eq_true_eq, Bool.not_eq_true'] at hc
          obtain ⟨⟨o1, o2⟩, o3, _⟩ := hc
          obtain ⟨m, rfl, rfl, tm⟩ := mkey_of st o1 (o2.imp id fun z => z.1) ra
          obtain ⟨hm, r2, pr, tr, _, hl2, _, f2⟩ := ih (ds := r) (us := us2) (ws := ws) (acc := acc ++ [(mD m, v)]) (kvs := kvs) (by simp at hn; omega) (by simp at hl; omega) st I rr vv hp
          refine ⟨hm, (m, b) :: r2, .cons ⟨mV_is (P := X.prog) (wo := X.w) hk1, hk2⟩ pr, fun p hp2 => ?_, fun k' v' q e ea => ?_, by simp only [List.length_cons]; omega, (fun z => by cases z), fun L rt nd => ?_⟩
          · rcases List.mem_cons.mp hp2 with z | z
            · subst z; exact tm
            · exact tr p z
          · subst ea
            rcases o2 with o2 | o2
            · cases m with
              | inr q => exact ⟨q, b, r2, rfl⟩
              | inl k2 => cases k2 <;> simp [mD, kD, keyT] at o2
            · simp at o2
          · have e1 : dget acc (mD m) = none := by
              unfold dhas at o3
              cases e : dget acc (mD m) with
              | none => rfl
              | some z => rw [e] at o3; simp at o3
            have nm := (repM_get m rt).2 e1
            have nd2 : ((L ++ [(m, b)]).map fun p => mK p.1).Nodup := by
              rw [List.map_append, List.nodup_append]
              refine ⟨nd, by simp, fun x hx y hy => ?_⟩
              obtain ⟨p, hp3, rfl⟩ := List.mem_map.mp hx
              obtain rfl : y = mK m := by simpa using hy
              exact nm p hp3
            have := f2 (L ++ [(m, b)]) (repM_app rt tm rb) nd2
            rw [List.append_assoc] at this
            exact this
        · cases hp
/-- {k: v, ..}, keys of both kinds -/
theorem sd_dctM {pos : Pos} {m : Bool} {keys : List (Option Expr)} {values : List Expr} {f : Slots → Sto → R (List D)} (hu : X.A.units + 20 < cLine) (hw : G.wo = X.w) (h : DPs X G W pos keys values f) (ne : keys ≠ []) (few : keys.length ≤ 15)
    {σ : L2.St} {H : Hp} {Q : VK} {pins : List (Addr × Obj)} {s : Shared} (I : Inv X pins σ H s) {w : Wd} {σD : Slots} {S S1 : Sto} {ds : List D} {kvs : List (D × D)} (sl : SlR G H w σD σ) (st : StoR G w S H) (e1 : f σD S = .ok ds S1) (hk : ∃ k r, ds = k :: r) (hp : pairsM [] ds = some kvs) (q : GoodR G H w W (mkD m kvs S1) Q) :
    wpAny (model X.prog X.w) X.A (eval (.Dict keys values pos) X.env) (EP X pins σ Q) X.xe s := by
  have hn := I.hok.fresh (Nat.le_refl s.heap.objs.size)
  have I1 := I.laid (a := s.heap.objs.size) (o := .dT []) (h' := s.heap.push { cls := .type "dict", data := .dict #[] }) (t' := s.toks) (fun _ _ q => Heap.get?_push_of_some _ q) (Nat.le_refl _) (dt_empty s.heap I.big)
  have st1 : StoR G w S (L2.upd H s.heap.objs.size (.dT [])) := st.upd hn
  have ex0 := Ext.upd (o := .dT []) st hn
  obtain ⟨k, r, ed⟩ := hk
  refine disp_mx (show X.A.units < cLine by omega) h.some_ h.len ne few ?_
  refine thn (h.run pins _ σ _ (fun vs H2 => ∃ w2, Ext (L2.upd H s.heap.objs.size (.dT [])) w H2 w2 ∧ StoR G w2 S1 H2 ∧ Reps G H2 w2 ds vs) I1 ⟨w, σD, S, sl.mono ex0, st1, by rw [e1]; exact fun w2 a H2 e st r => ⟨w2, e, st, r⟩⟩) fun ws s2 ⟨us, H2, I2, hlu, rel, w2, ex, st2, rs⟩ => ?_
  have hnph : s.heap.objs.size ∉ w.ph := fun m => st.mem m hn
  have hnF : ¬ w.Fz s.heap.objs.size := fun m => st.fz _ m hn
  have hat : H2 s.heap.objs.size = some (.dT []) := ex.keep _ _ upd_same hnph hnF
  have hl2 : s.heap.objs.size ∉ w2.ph := fun m => (ex.newP _ m).elim hnph fun z => by rw [upd_same] at z; cases z
  have hF2 : ¬ w2.Fz s.heap.objs.size := fun m => (ex.newF _ m).elim hnF fun z => by rw [upd_same] at z; cases z.2
  obtain ⟨hm, r2, pr, tr, fst, hl3, _, f2⟩ := carryM (n := ds.length) (ds := ds) (us := us) (ws := ws) (acc := []) (kvs := kvs) (Nat.le_refl _) (Reps.length rs) st2 I2 rs rel hp
  obtain ⟨g1, g2⟩ := f2 [] rfl List.nodup_nil
  rw [List.nil_append] at g1 g2
  have hr : ∃ v r', r = v :: r' := by
    cases r with
    | nil => rw [ed] at hp; cases hp
    | cons v r' => exact ⟨v, r', rfl⟩
  obtain ⟨v, r', er⟩ := hr
  have so := fst k v r' (by rw [ed, er]) rfl
  obtain ⟨z, hd, xs, r0, o, es, ep, h1, h2, h3, h4, _, h6⟩ := dt_of I2.hok hat
  cases r0
  refine ⟨r2, pr, fun p hp => tupOk_of I2 (tr p hp), g2, ⟨by simp, hd, o, es, ep, h1, h2, h3, by rw [h4]; exact .nil, List.nodup_nil⟩, so, fun g tk mx sb => ⟨.ref s.heap.objs.size, L2.upd H2 s.heap.objs.size (mxO G.wo s.heap.objs.size r2), ?_, rfl, ?_⟩⟩
  · have mx3 := mx
    obtain ⟨_, _, q0, es, ep, hq, _⟩ := mx3
    refine d_write I2 (by rw [hat]; exact True.intro) sb ⟨q0, hq⟩ (mx_ok (P := X.prog) ?_)
    rw [hw]
    exact mx
  · have exF : Ext H w (L2.upd H2 s.heap.objs.size (mxO G.wo s.heap.objs.size r2)) w2 := Ext.free hat hl2 hF2 (fun us z => by cases z) (fun x u z => by cases z) H w (ex0.trans ex) hn
    have stF : StoR G w2 S1 (L2.upd H2 s.heap.objs.size (mxO G.wo s.heap.objs.size r2)) := st2.free hl2 hF2 (fun us z => by rw [hat] at z; cases z) (fun o u z => by rw [hat] at z; cases z) (by intro x us z; cases z)
    refine GoodR.adoptD q exF stF hn hnph hl2 hF2 (.inr (.inr ⟨r2, upd_same, hm, ?_⟩))
    exact RepM.same ⟨fun a ha => upd_ne ha, (fun us z => by rw [hat] at z; cases z), fun o u z => by rw [hat] at z; cases z⟩ hF2 _ _ g1
/-- {k: v, ..}, the first key a tuple (so all are) -/
theorem sd_dct {pos : Pos} {m : Bool} {keys : List (Option Expr)} {values : List Expr} {f : Slots → Sto → R (List D)} (hu : X.A.units + 20 < cLine) (hw : G.wo = X.w) (h : DPs X G W pos keys values f) (ne : keys ≠ []) (few : keys.length ≤ 15)
    (hk : ∀ σ S ds S', f σ S = .ok ds S' → ∃ k r, ds = k :: r ∧ keyK k = false) :
    PE X (.Dict keys values pos) (tEV G W fun σ S => (f σ S).bind fun ds S1 => match pairsX ds with
      | some acc => mkD m acc S1
      | none => .bad) := by
  refine ⟨fun pins s σ H Q I ⟨w, σD, S, sl, st, q⟩ => ?_⟩
  dsimp only at q
  have hn := I.hok.fresh (Nat.le_refl s.heap.objs.size)
  have I1 := I.laid (a := s.heap.objs.size) (o := .dT []) (h' := s.heap.push { cls := .type "dict", data := .dict #[] }) (t' := s.toks) (fun _ _ q => Heap.get?_push_of_some _ q) (Nat.le_refl _) (dt_empty s.heap I.big)
  have st1 : StoR G w S (L2.upd H s.heap.objs.size (.dT [])) := st.upd hn
  have ex0 := Ext.upd (o := .dT []) st hn
  cases e0 : f σD S with
  | bad => rw [e0] at q; exact q.elim
  | ok ds S1 =>
    cases hx : pairsD [] ds with
    | none =>
      rw [e0] at q
      simp only [R.bind, pairsX, hx] at q
      cases hy : pairsM [] ds with
      | none => rw [hy] at q; exact q.elim
      | some kvs =>
        rw [hy] at q
        obtain ⟨k, r, ed, _⟩ := hk σD S ds S1 e0
        exact sd_dctM hu hw h ne few I sl st e0 ⟨k, r, ed⟩ hy q
    | some kvs0 =>
      have q0 : GoodR G H w W ((f σD S).bind fun ds S1 => match pairsD [] ds with
        | some acc => mkD m acc S1
        | none => .bad) Q := by
        rw [e0] at q ⊢
        simp only [R.bind, pairsX, hx] at q ⊢
        exact q
      clear q
      have q := q0
      clear q0 e0 hx
      refine wp_disp (knd := tupleKind (mixKind X.prog X.w)) (show X.A.units < cLine by omega) h.some_ h.len ne few ?_
      cases e1 : f σD S with
      | bad => rw [e1] at q; exact q.elim
      | exc x S1 =>
        rw [e1] at q
        exact wpAny_mono (h.run pins _ σ _ (fun _ _ => False) I1 ⟨w, σD, S, sl.mono ex0, st1, by rw [e1]; exact GoodX.mono ex0 q⟩) (fun u s1 ⟨x, H1, I1, _, rx, z⟩ => z.elim) fun _ _ e => e
      | ok ds S1 =>
        rw [e1] at q
        obtain ⟨k, r, ed, kf⟩ := hk σD S ds S1 e1
        refine thn (h.run pins _ σ _ (fun vs H2 => ∃ w2, Ext (L2.upd H s.heap.objs.size (.dT [])) w H2 w2 ∧ StoR G w2 S1 H2 ∧ Reps G H2 w2 ds vs) I1 ⟨w, σD, S, sl.mono ex0, st1, by rw [e1]; exact fun w2 a H2 e st r => ⟨w2, e, st, r⟩⟩) fun ws s2 ⟨us, H2, I2, hlu, rel, w2, ex, st2, rs⟩ => ?_
        simp only [R.bind] at q
        cases hp : pairsD [] ds with
        | none => rw [hp] at q; exact q.elim
        | some kvs =>
          rw [hp] at q
          dsimp only at q
          have kt : keyT k = true := by
            rw [ed] at hp
            cases r with
            | nil => cases hp
            | cons v r =>
              unfold pairsD at hp
              split at hp
              · rename_i hc
                simp only [Bool.and_eq_true, keysOk, Bool.or_eq_true, kf] at hc
                simpa using hc.1.2
              · cases hp
          have hl : ds.length ≤ 30 := by
            have := Reps.length rs
            omega
          have hnph : s.heap.objs.size ∉ w.ph := fun m => st.mem m hn
          have hnF : ¬ w.Fz s.heap.objs.size := fun m => st.fz _ m hn
          have hat : H2 s.heap.objs.size = some (.dT []) := ex.keep _ _ upd_same hnph hnF
          have hl2 : s.heap.objs.size ∉ w2.ph := fun m => (ex.newP _ m).elim hnph fun z => by rw [upd_same] at z; cases z
          have hF2 : ¬ w2.Fz s.heap.objs.size := fun m => (ex.newF _ m).elim hnF fun z => by rw [upd_same] at z; cases z.2
          obtain ⟨q2, r2, c2, f2⟩ := carryT (n := ds.length) (ds := ds) (us := us) (ws := ws) (acc := []) (kvs := kvs) (Nat.le_refl _) (Reps.length rs) st2 I2 rs rel hp (by simp; omega) (fun k' v' r' e => by
            rw [ed] at e
            cases e
            exact ⟨kt, rfl⟩)
          obtain ⟨L', g1, g2, g3⟩ := f2 [] [] rfl .nil
          obtain ⟨z, hd, xs, r0, dd⟩ := dt_of I2.hok hat
          cases r0
          refine ⟨r2, c2, dd, fun g tk dd' hs => ⟨.ref s.heap.objs.size, L2.upd H2 s.heap.objs.size (.dT L'), ?_, rfl, ?_⟩⟩
          · obtain ⟨q0, es, ep, hq, h2, h3, h4, _, h5⟩ := dd'
            refine d_write I2 (by rw [hat]; exact True.intro) hs ⟨q0, hq⟩ ⟨?_, hd, _, KT.keeps g2 fun c ys ec => ?_, q0, es, ep, hq, h2, h3, h4, h5⟩
            · have := big_line
              simp at g3
              omega
            · rw [upd_ne (ne_of ec hat (fun z => nomatch z))]
              exact ec
          · have exF : Ext H w (L2.upd H2 s.heap.objs.size (.dT L')) w2 := Ext.free hat hl2 hF2 (fun us z => by cases z) (fun x u z => by cases z) H w ?_ hn
            · have stF : StoR G w2 S1 (L2.upd H2 s.heap.objs.size (.dT L')) := st2.free hl2 hF2 (fun us z => by rw [hat] at z; cases z) (fun o u z => by rw [hat] at z; cases z)
              refine GoodR.adoptD q exF stF hn hnph hl2 hF2 (.inl ⟨L', upd_same, ?_⟩)
              exact RepT.same ⟨fun a ha => upd_ne ha, (fun us z => by rw [hat] at z; cases z), fun o u z => by rw [hat] at z; cases z⟩ hF2 _ _ g1
            · exact ex0.trans ex
  | exc x S1 =>
    have q0 : GoodR G H w W ((f σD S).bind fun ds S1 => match pairsD [] ds with
        | some acc => mkD m acc S1
        | none => .bad) Q := by
      rw [e0] at q ⊢
      exact q
    clear q
    have q := q0
    clear q0 e0
    refine wp_disp (knd := tupleKind (mixKind X.prog X.w)) (show X.A.units < cLine by omega) h.some_ h.len ne few ?_
    cases e1 : f σD S with
    | bad => rw [e1] at q; exact q.elim
    | exc x S1 =>
      rw [e1] at q
      exact wpAny_mono (h.run pins _ σ _ (fun _ _ => False) I1 ⟨w, σD, S, sl.mono ex0, st1, by rw [e1]; exact GoodX.mono ex0 q⟩) (fun u s1 ⟨x, H1, I1, _, rx, z⟩ => z.elim) fun _ _ e => e
    | ok ds S1 =>
      rw [e1] at q
      obtain ⟨k, r, ed, kf⟩ := hk σD S ds S1 e1
      refine thn (h.run pins _ σ _ (fun vs H2 => ∃ w2, Ext (L2.upd H s.heap.objs.size (.dT [])) w H2 w2 ∧ StoR G w2 S1 H2 ∧ Reps G H2 w2 ds vs) I1 ⟨w, σD, S, sl.mono ex0, st1, by rw [e1]; exact fun w2 a H2 e st r => ⟨w2, e, st, r⟩⟩) fun ws s2 ⟨us, H2, I2, hlu, rel, w2, ex, st2, rs⟩ => ?_
      simp only [R.bind] at q
      cases hp : pairsD [] ds with
      | none => rw [hp] at q; exact q.elim
      | some kvs =>
        rw [hp] at q
        dsimp only at q
        have kt : keyT k = true := by
          rw [ed] at hp
          cases r with
          | nil => cases hp
          | cons v r =>
            unfold pairsD at hp
            split at hp
            · rename_i hc
              simp only [Bool.and_eq_true, keysOk, Bool.or_eq_true, kf] at hc
              simpa using hc.1.2
            · cases hp
        have hl : ds.length ≤ 30 := by
          have := Reps.length rs
          omega
        have hnph : s.heap.objs.size ∉ w.ph := fun m => st.mem m hn
        have hnF : ¬ w.Fz s.heap.objs.size := fun m => st.fz _ m hn
        have hat : H2 s.heap.objs.size = some (.dT []) := ex.keep _ _ upd_same hnph hnF
        have hl2 : s.heap.objs.size ∉ w2.ph := fun m => (ex.newP _ m).elim hnph fun z => by rw [upd_same] at z; cases z
        have hF2 : ¬ w2.Fz s.heap.objs.size := fun m => (ex.newF _ m).elim hnF fun z => by rw [upd_same] at z; cases z.2
        obtain ⟨q2, r2, c2, f2⟩ := carryT (n := ds.length) (ds := ds) (us := us) (ws := ws) (acc := []) (kvs := kvs) (Nat.le_refl _) (Reps.length rs) st2 I2 rs rel hp (by simp; omega) (fun k' v' r' e => by
          rw [ed] at e
          cases e
          exact ⟨kt, rfl⟩)
        obtain ⟨L', g1, g2, g3⟩ := f2 [] [] rfl .nil
        obtain ⟨z, hd, xs, r0, dd⟩ := dt_of I2.hok hat
        cases r0
        refine ⟨r2, c2, dd, fun g tk dd' hs => ⟨.ref s.heap.objs.size, L2.upd H2 s.heap.objs.size (.dT L'), ?_, rfl, ?_⟩⟩
        · obtain ⟨q0, es, ep, hq, h2, h3, h4, _, h5⟩ := dd'
          refine d_write I2 (by rw [hat]; exact True.intro) hs ⟨q0, hq⟩ ⟨?_, hd, _, KT.keeps g2 fun c ys ec => ?_, q0, es, ep, hq, h2, h3, h4, h5⟩
          · have := big_line
            simp at g3
            omega
          · rw [upd_ne (ne_of ec hat (fun z => nomatch z))]
            exact ec
        · have exF : Ext H w (L2.upd H2 s.heap.objs.size (.dT L')) w2 := Ext.free hat hl2 hF2 (fun us z => by cases z) (fun x u z => by cases z) H w ?_ hn
          · have stF : StoR G w2 S1 (L2.upd H2 s.heap.objs.size (.dT L')) := st2.free hl2 hF2 (fun us z => by rw [hat] at z; cases z) (fun o u z => by rw [hat] at z; cases z)
            refine GoodR.adoptD q exF stF hn hnph hl2 hF2 (.inl ⟨L', upd_same, ?_⟩)
            exact RepT.same ⟨fun a ha => upd_ne ha, (fun us z => by rw [hat] at z; cases z), fun o u z => by rw [hat] at z; cases z⟩ hF2 _ _ g1
          · exact ex0.trans ex
end
end Lt
namespace Lt
open PySem L2 PySem.Spec PyProof.Rows
section
variable {G : AMap} {H H1 H2 : Hp} {w w1 w2 : Wd} {W : XK} {S : Sto}
variable {X : Cx} {pins : List (Addr × Obj)} {σ : L2.St} {s : Shared}
/-- what a dict's entries hold, in their order -/
def HoldsV (H : Hp) (a : Addr) (us : List V) : Prop := (∃ L, Rd H a (.dT L) ∧ us = L.map fun p => p.2) ∨ (∃ L, Rd H a (.dK L) ∧ us = L.map fun p => p.2) ∨ ∃ wo L, Rd H a (mxO wo a L) ∧ us = L.map fun p => p.2
theorem paired_snd {α β : Type} {F : α → β → Prop} {f : α → V} {g : β → Value} (k : ∀ a b, F a b → RelV (f a) (g b)) : ∀ {l : List α} {m : List β}, Paired F l m → Vals (l.map f) (m.map g)
  | _, _, .nil => .nil
  | _, _, .cons h t => .cons (k _ _ h) (paired_snd k t)
theorem raw_of (I : Inv X pins σ H s) {a : Addr} {us : List V} (h : HoldsV H a us) : (a == sysModules) = false ∧ us.length ≤ sizeLine ∧ ∃ es ep, s.heap.DictRaw a es ep ∧ es.size = us.length ∧ ∃ its : List Value, Vals us its ∧ ∀ i (hi : i < es.size), its[i]? = some es[i].val := by
  rcases h with ⟨L, rd, rfl⟩ | ⟨L, rd, rfl⟩ | ⟨wo, L, rd, rfl⟩
  · obtain ⟨z, hd, xs, rel, dd⟩ := dt_rd I.hok rd
    obtain ⟨es, ep, h1, h2, h3⟩ := dd.raw
    have hl : L.length = xs.length := Paired.length rel
    refine ⟨hd, by simpa using z, es, ep, h1, by rw [h2, List.length_map, hl], xs.map fun q => q.2.2, paired_snd (fun _ _ z => z.2.2) rel, fun i hi => ?_⟩
    obtain ⟨y, e1, _, e2, _⟩ := h3 i hi
    rw [List.getElem?_map, e1, e2]; rfl
  · obtain ⟨z, hd, vs, rel, dd⟩ := dk_rd I.hok rd
    obtain ⟨es, ep, h1, h2, h3⟩ := dd.raw
    have hl : L.length = vs.length := rel.length
    refine ⟨hd, by simpa using z, es, ep, h1, by rw [h2, List.length_map, hl], vs.map fun q => q.2, paired_snd (fun _ _ z => z.2) rel, fun i hi => ?_⟩
    cases e : vs[i]? with
    | none =>
      have := List.getElem?_eq_none_iff.mp e
      omega
    | some p =>
      have := (h3 i hi p.1 p.2 e).2
      rw [List.getElem?_map, e, this]; rfl
  · obtain ⟨z, hd, o, es, ep, ho, hx, hdat, pr, _⟩ := mx_at (P := X.prog) (rd.ok I.hok)
    have hs : es.size = L.length := by rw [← Array.length_toList, ← Paired.length pr]
    refine ⟨hd, by simpa using z, es, ep, ⟨o, ho, hx, hdat⟩, by rw [hs, List.length_map], es.toList.map fun e => e.val, paired_snd (fun _ _ z => z.2.2) pr, fun i hi => ?_⟩
    rw [List.getElem?_map, Array.getElem?_toList, Array.getElem?_eq_getElem hi]; rfl
def tVal0 (t : TE) : TE := fun σ H Q => t σ H fun x H1 => ∃ a, x = .ref a ∧ IsDX H1 a ∧ ∀ p, H1 p = none → Q (.ref p) (L2.upd H1 p (L2.viewO "dict_values" p a))
theorem pe_val0 {o : Expr} {apos cpos : Pos} {t : TE} (ho : PE X o t) (hs : noSup o = true) (hline : (apos.endLine == cpos.line) = true) : PE X (.Call (.Attribute o (Str.ofString "values") apos) [] [] cpos) (tVal0 t) := by
  refine ⟨fun pins s σ H Q I h => ?_⟩
  refine PySem.wpAny_Call_method0_late (base_of hs _ _ _) hline (thn (ho.run pins s σ H _ I h) fun v s1 ⟨x, H1, I1, r1, a, ex, d, q⟩ => ?_)
  subst ex
  cases r1
  obtain ⟨t1, t2, na⟩ := isDX_at I1 d
  have hv : ∃ us, HoldsV H1 a us := d.elim (fun d => d.elim (fun ⟨L, h⟩ => ⟨_, .inr (.inl ⟨L, h, rfl⟩)⟩) fun ⟨L, h⟩ => ⟨_, .inl ⟨L, h, rfl⟩⟩) fun ⟨wo, L, h⟩ => ⟨_, .inr (.inr ⟨wo, L, h, rfl⟩)⟩
  obtain ⟨us, hv⟩ := hv
  obtain ⟨_, _, es, ep, dr, _⟩ := raw_of I1 hv
  refine ⟨"dict", "dict.values", PySem.F.plainAttrs_dict, PySem.F.slot_dict_values, PySem.F.type_dict_values, t1, t2, Calls.callWith_builtin rfl (PySem.evalArgs_none ?_)⟩
  refine call_meetsIn PySem.F.slot_dict_values t1 PySem.F.entry_dict_values (PySem.F.args_dict_values_1 _) (meets_dict_values_raw a na) ⟨⟨es, ep, dr⟩, ?_⟩
  have hn := I1.hok.fresh (Nat.le_refl s1.heap.objs.size)
  refine ⟨.ref s1.heap.objs.size, _, I1.laid (t' := s1.toks) (fun b u e => Heap.get?_push_of_some _ e) (Nat.le_refl _) (L2.viewO_ok (Heap.get?_push_size _ rfl)), rfl, q _ hn⟩
def rListV : List V → Hp → VK → Prop := fun xs H Q => ∃ p a us, xs = [.ref p] ∧ H p = some (L2.viewO "dict_values" p a) ∧ HoldsV H a us ∧ ∀ l, H l = none → Q (.ref l) (L2.upd H l (.lst us))
theorem call_listV (hc : X.calm = true) : CallR X (.type "list") rListV := by
  intro pins s σ H xs vs Q I r ⟨p, a, us, ex, hp, hv, q⟩
  subst ex
  obtain ⟨u, rfl, ru⟩ := vals1 r
  cases ru
  obtain ⟨na, hz, es, ep, dr, hsz, its, rv, hi⟩ := raw_of I hv
  have hview : s.heap.get? p = some (DSub.viewOb "dict_values" a) := (I.hok p _ hp).1
  refine PySem.W.kdl_call (T := "dict_values") (PySem.KdlSrc.rawValues (r := p) (d := a) (es := es) (ep := ep)) (I.ok.hd hc) ⟨⟨_, hview, rfl, rfl⟩, dr⟩ (by omega) fun g tk acc c k hS hacc => ?_
  have hn := I.hok.fresh (Nat.le_refl s.heap.objs.size)
  have hlen : its.length = us.length := rv.length.symm
  have e : acc.toList = its := by
    apply List.ext_getElem?
    intro i
    rcases Nat.lt_or_ge i es.size with h | h
    · have h1 : i < acc.size := by rw [hacc.1]; exact h
      obtain ⟨_, h2⟩ := hacc.2 i acc[i] (by simp [h1])
      rw [hi i h, ← h2]
      simp [h1]
    · rw [List.getElem?_eq_none (by rw [Array.length_toList, hacc.1]; exact h), List.getElem?_eq_none (by omega)]
  refine ⟨.ref s.heap.objs.size, L2.upd H s.heap.objs.size (.lst us), I.laid (t' := tk) k (Nat.le_refl _) ⟨hz, its, c, rv, ?_⟩, rfl, q _ hn⟩
  rw [hS, ← e]
theorem repT_vals : ∀ {kvs : List (D × D)} {L : List (List L2.Key × V)}, RepT G H w kvs L → Reps G H w (kvs.map (·.2)) (L.map fun p => p.2)
  | [], L, h => by
    have h : L = [] := h
    subst h; exact rfl
  | (k, d) :: r, _, ⟨ks, u, L', e1, e2, a, b⟩ => by
    subst e1
    exact Reps.cons a (repT_vals b)
theorem repK_vals : ∀ {kvs : List (D × D)} {L : List (L2.Key × V)}, RepK G H w kvs L → Reps G H w (kvs.map (·.2)) (L.map fun p => p.2)
  | [], L, h => by
    have h : L = [] := h
    subst h; exact rfl
  | (k, d) :: r, _, ⟨ks, u, L', e1, e2, a, b⟩ => by
    subst e1
    exact Reps.cons a (repK_vals b)
theorem repM_vals : ∀ {kvs : List (D × D)} {L : List (MEnt × V)}, RepM G H w kvs L → Reps G H w (kvs.map (·.2)) (L.map fun p => p.2)
  | [], L, h => by
    have h : L = [] := h
    subst h; exact rfl
  | (k, d) :: r, _, ⟨ks, u, L', e1, e2, _, a, b⟩ => by
    subst e1
    exact Reps.cons a (repM_vals b)
/-- list(o.values()) -/
theorem sd_values {o : Expr} {f : fE} {m : Bool} {p apos cpos pos : Pos} (hc : X.calm = true) (hg : Gl X (Str.ofString "list")) (hm : X.mg (Str.ofString "list") = none) (ho : PE X o (tEV G W f)) (hs : noSup o = true) (hline : (apos.endLine == cpos.line) = true) :
    PE X (.Call (.Name (Str.ofString "list") p) [.Call (.Attribute o (Str.ofString "values") apos) [] [] cpos] [] pos) (tEV G W fun σ S => (f σ S).bind fun x S1 => match dctOf S1 x with
      | some kvs => mkL m (kvs.map (·.2)) S1
      | none => .bad) := by
  refine pe_imp (pe_callTy (call_listV hc) hg hm (by decide +kernel) (pa_cons (pe_val0 ho hs hline) pa_nil rfl) (by decide +kernel) (by decide +kernel) rfl rfl) fun σ H Q q => ?_
  obtain ⟨w, σD, S, sl, st, q1⟩ := tEV_bind (f := f) (g := fun _ x S1 => match dctOf S1 x with
      | some kvs => mkL m (kvs.map (·.2)) S1
      | none => .bad) q
  refine ⟨w, σD, S, sl, st, GoodR.imp q1 fun x H1 ⟨w, σD, S, d, sl, st, r, q⟩ => ?_⟩
  dsimp only at q
  cases hx : dctOf S d with
  | none => rw [hx] at q; exact q.elim
  | some kvs =>
    rw [hx] at q
    obtain ⟨a, rfl, dv⟩ := dct_at st r hx
    refine ⟨a, rfl, isD_of dv, fun pv hpv => ?_⟩
    have st2 : StoR G w S (L2.upd H1 pv (L2.viewO "dict_values" pv a)) := st.upd hpv
    have ex2 := Ext.upd (o := L2.viewO "dict_values" pv a) st hpv
    rcases dv with ⟨L, rd, rt⟩ | ⟨L, rd, rk⟩ | ⟨L, rd, mx, rk⟩
    · have rd2 : Rd (L2.upd H1 pv (L2.viewO "dict_values" pv a)) a (.dT L) := by
        have : a ≠ pv := fun z => by subst z; rcases rd with rd | ⟨o, rd⟩ <;> (rw [hpv] at rd; cases rd)
        unfold Rd
        rw [upd_ne this]; exact rd
      exact ⟨pv, a, _, rfl, upd_same, .inl ⟨L, rd2, rfl⟩, fun l hl => GoodR.newLst (GoodR.mono ex2 q) st2 (repT_vals (RepT.mono ex2 _ _ rt)) hl⟩
    · have rd2 : Rd (L2.upd H1 pv (L2.viewO "dict_values" pv a)) a (.dK L) := by
        have : a ≠ pv := fun z => by subst z; rcases rd with rd | ⟨o, rd⟩ <;> (rw [hpv] at rd; cases rd)
        unfold Rd
        rw [upd_ne this]; exact rd
      exact ⟨pv, a, _, rfl, upd_same, .inr (.inl ⟨L, rd2, rfl⟩), fun l hl => GoodR.newLst (GoodR.mono ex2 q) st2 (repK_vals (RepK.mono ex2 _ _ rk)) hl⟩
    · have rd2 : Rd (L2.upd H1 pv (L2.viewO "dict_values" pv a)) a (mxO G.wo a L) := by
        have : a ≠ pv := fun z => by subst z; rcases rd with rd | ⟨o, rd⟩ <;> (rw [hpv] at rd; cases rd)
        unfold Rd
        rw [upd_ne this]; exact rd
      exact ⟨pv, a, _, rfl, upd_same, .inr (.inr ⟨_, L, rd2, rfl⟩), fun l hl => GoodR.newLst (GoodR.mono ex2 q) st2 (repM_vals (RepM.mono ex2 _ _ rk)) hl⟩
end
end Lt
namespace Lt
open PySem L2 PySem.Spec PyProof.Rows
/-! ### orders -/
structure Lin {α : Type} (lt : α → α → Bool) : Prop where
  irr : ∀ x, lt x x = false
  tr : ∀ x y z, lt x y = true → lt y z = true → lt x z = true
  tri : ∀ x y, lt x y = false → lt y x = false → x = y
theorem Lin.asym {α : Type} {lt : α → α → Bool} (h : Lin lt) {x y : α} (q : lt x y = true) : lt y x = false := by
  cases e : lt y x with
  | false => rfl
  | true =>
    have := h.tr x y x q e
    rw [h.irr] at this; cases this
theorem Lin.swo {α : Type} {lt : α → α → Bool} (h : Lin lt) : SrtO.Swo lt := by
  refine ⟨fun x y q => h.asym q, fun x y z a b => ?_⟩
  cases e : lt z x with
  | false => rfl
  | true =>
    cases e1 : lt x y with
    | true =>
      have := h.tr z x y e e1
      rw [b] at this; cases this
    | false =>
      have := h.tri x y e1 a
      subst this
      rw [e] at b; cases b
def lexB {α : Type} [DecidableEq α] (lt : α → α → Bool) : List α → List α → Bool
  | [], _ :: _ => true
  | a :: x, b :: y => lt a b || (decide (a = b) && lexB lt x y)
  | _, _ => false
theorem Lin.lex {α : Type} [DecidableEq α] {lt : α → α → Bool} (h : Lin lt) : Lin (lexB lt) := by
  refine ⟨fun x => ?_, fun x => ?_, fun x => ?_⟩
  · induction x with
    | nil => rfl
    | cons a x ih => simp [lexB, h.irr, ih]
  · induction x with
    | nil =>
      intro y z a b
      cases z with
      | nil => cases y <;> simp [lexB] at b
      | cons c z => rfl
    | cons a x ih =>
      intro y z p q
      cases y with
      | nil => simp [lexB] at p
      | cons b y =>
        cases z with
        | nil => simp [lexB] at q
        | cons c z =>
          simp only [lexB, Bool.or_eq_true, Bool.and_eq_true, decide_eq_true_eq] at p q ⊢
          rcases p with p | ⟨rfl, p⟩
          · rcases q with q | ⟨rfl, q⟩
            · exact .inl (h.tr _ _ _ p q)
            · exact .inl p
          · rcases q with q | ⟨rfl, q⟩
            · exact .inl q
            · exact .inr ⟨rfl, ih _ _ p q⟩
  · induction x with
    | nil =>
      intro y p q
      cases y with
      | nil => rfl
      | cons b y => simp [lexB] at p
    | cons a x ih =>
      intro y p q
      cases y with
      | nil => simp [lexB] at q
      | cons b y =>
        simp only [lexB, Bool.or_eq_false_iff, Bool.and_eq_false_imp, decide_eq_true_eq] at p q
        have e := h.tri a b p.1 q.1
        subst e
        rw [ih y (p.2 rfl) (q.2 rfl)]
theorem lin_nat : Lin fun a b : Nat => decide (a < b) := ⟨fun x => by simp, fun x y z a b => by simp at a b ⊢; omega, fun x y a b => by simp at a b; omega⟩
theorem lexB_nat : ∀ x y : List Nat, decide (x < y) = lexB (fun a b : Nat => decide (a < b)) x y
  | [], [] => by simp [lexB]
  | [], b :: y => by simp [lexB]
  | a :: x, [] => by simp [lexB]
  | a :: x, b :: y => by
    have ih := lexB_nat x y
    rw [lexB, ← ih]
    by_cases h : a < b
    · simp [List.cons_lt_cons_iff, h]
    · by_cases e : a = b
      · subst e; simp [List.cons_lt_cons_iff]
      · simp [List.cons_lt_cons_iff, h, e]
theorem lin_str : Lin strLt := by
  have h := lin_nat.lex
  have e : ∀ a b : Str, strLt a b = lexB (fun a b : Nat => decide (a < b)) a.cps.toList b.cps.toList := fun a b => lexB_nat _ _
  refine ⟨fun x => by rw [e]; exact h.irr _, fun x y z p q => by rw [e] at p q ⊢; exact h.tr _ _ _ p q, fun x y p q => ?_⟩
  rw [e] at p q
  have := h.tri _ _ p q
  cases x; cases y
  simp only [Str.mk.injEq]
  exact Array.toList_inj.mp this
abbrev ltT : List Str → List Str → Bool := lexB strLt
theorem lin_ltT : Lin ltT := lin_str.lex
/-! ### sorting by putting in -/
section
variable {α : Type} (lt : α → α → Bool)
def insB (x : α) : List α → List α
  | [] => [x]
  | y :: ys => if lt y x then y :: insB x ys else x :: y :: ys
def isort : List α → List α
  | [] => []
  | x :: xs => insB lt x (isort xs)
variable {lt}
theorem ins_stb (O : SrtO.Swo lt) (x : α) : ∀ m : List α, SrtO.Stb lt (insB lt x m) (x :: m)
  | [] => SrtO.Stb.refl _
  | y :: m => by
    unfold insB
    split
    · rename_i h
      have a : SrtO.Stb lt ([y] ++ insB lt x m) ([y] ++ (x :: m)) := (SrtO.Stb.refl [y]).app (ins_stb O x m)
      have b : SrtO.Stb lt (([y] ++ [x]) ++ m) (([x] ++ [y]) ++ m) := (SrtO.Stb.swap O (A := [y]) (B := [x]) fun p hp q hq => by
        obtain rfl : p = y := by simpa using hp
        obtain rfl : q = x := by simpa using hq
        exact h).app (SrtO.Stb.refl m)
      exact a.trans b
    · exact SrtO.Stb.refl _
theorem ins_mem {x z : α} : ∀ {m : List α}, z ∈ insB lt x m → z = x ∨ z ∈ m
  | [], h => by
    have h : z ∈ [x] := h
    exact .inl (by simpa using h)
  | y :: m, h => by
    unfold insB at h
    split at h
    · rcases List.mem_cons.mp h with h | h
      · exact .inr (by rw [h]; exact List.mem_cons_self)
      · exact (ins_mem h).imp id (List.mem_cons_of_mem _)
    · rcases List.mem_cons.mp h with h | h
      · exact .inl h
      · exact .inr h
theorem ins_srt (O : SrtO.Swo lt) (x : α) : ∀ {m : List α}, SrtO.Srtd lt m → SrtO.Srtd lt (insB lt x m)
  | [], _ => SrtO.srtd_one x
  | y :: m, h => by
    unfold insB
    split
    · rename_i q
      refine List.pairwise_cons.mpr ⟨fun z hz => ?_, ins_srt O x (List.pairwise_cons.mp h).2⟩
      rcases ins_mem hz with e | hz
      · rw [e]; exact O.asym y x q
      · exact SrtO.srtd_head h z hz
    · rename_i q
      have q : lt y x = false := by simpa using q
      exact List.pairwise_cons.mpr ⟨O.le_all h q, h⟩
theorem isort_ok (O : SrtO.Swo lt) : ∀ l : List α, SrtO.Srtd lt (isort lt l) ∧ SrtO.Stb lt (isort lt l) l
  | [] => ⟨.nil, SrtO.Stb.refl _⟩
  | x :: l => by
    obtain ⟨a, b⟩ := isort_ok O l
    refine ⟨ins_srt O x a, (ins_stb O x _).trans ?_⟩
    exact (SrtO.Stb.refl [x]).app b
theorem ins_map {β : Type} {lt2 : β → β → Bool} {f : α → β} {x : α} : ∀ {m : List α}, (∀ y ∈ m, lt2 (f y) (f x) = lt y x) → (insB lt x m).map f = insB lt2 (f x) (m.map f)
  | [], _ => rfl
  | y :: m, h => by
    rw [List.map_cons, insB, insB, h y List.mem_cons_self]
    split
    · rw [List.map_cons, ins_map fun z hz => h z (List.mem_cons_of_mem _ hz)]
    · rfl
theorem isort_mem {z : α} : ∀ {l : List α}, z ∈ isort lt l → z ∈ l
  | [], h => h
  | x :: l, h => by
    rcases ins_mem h with e | h
    · rw [e]; exact List.mem_cons_self
    · exact List.mem_cons_of_mem _ (isort_mem h)
theorem isort_map {β : Type} {lt2 : β → β → Bool} {f : α → β} : ∀ {l : List α}, (∀ x ∈ l, ∀ y ∈ l, lt2 (f x) (f y) = lt x y) → (isort lt l).map f = isort lt2 (l.map f)
  | [], _ => rfl
  | x :: l, h => by
    rw [List.map_cons, isort, isort, ins_map (lt2 := lt2) fun y hy => h y (List.mem_cons_of_mem _ (isort_mem hy)) x List.mem_cons_self, isort_map fun a ha b hb => h a (List.mem_cons_of_mem _ ha) b (List.mem_cons_of_mem _ hb)]
theorem insD_ins (x : D) : ∀ m : List D, insD x m = insB ltD x m
  | [] => rfl
  | y :: m => by
    rw [insD, insB, insD_ins x m]
theorem sortD_sort : ∀ l : List D, sortD l = isort ltD l
  | [] => rfl
  | x :: l => by rw [sortD, isort, sortD_sort l, insD_ins]
end
/-! ### tuples of texts, in the heap -/
/-- v is a tuple of these texts -/
def TupS (h : Heap) (v : Value) (z : List Str) : Prop := ∃ a its, v = .ref a ∧ IsTup h a its.toArray ∧ Vals (z.map V.str) its
section
variable {prog : Program} {w : World} {A : Around} {E : Value → Shared → Prop} {s : Shared}
theorem str_at : ∀ {z : List Str} {its : List Value} {i : Nat} {x : Value}, Vals (z.map V.str) its → its[i]? = some x → ∃ y t, z[i]? = some y ∧ x = .str y t
  | [], its, i, x, r, e => by cases r; simp at e
  | y :: z, its, i, x, r, e => by
    rw [List.map_cons] at r
    cases r with
    | cons h t =>
      obtain ⟨tk, rfl⟩ := h
      cases i with
      | zero =>
        refine ⟨y, tk, rfl, ?_⟩
        simpa using e.symm
      | succ i =>
        obtain ⟨y', t', h1, h2⟩ := str_at t (i := i) (by simpa using e)
        exact ⟨y', t', by simpa using h1, h2⟩
theorem str_len' {z : List Str} {its : List Value} (r : Vals (z.map V.str) its) : its.length = z.length := by
  have := r.length
  simpa using this.symm
theorem lexAt_lex {e r : Nat → Bool} : ∀ {x y : List Str} {i : Nat}, (∀ j a b, x[j]? = some a → y[j]? = some b → e (i + j) = decide (a = b) ∧ r (i + j) = strLt a b) →
    Ob.lexAt e r (decide (x.length < y.length)) i (min x.length y.length) = ltT x y
  | [], [], i, h => by simp [Ob.lexAt, lexB]
  | [], b :: y, i, h => by simp [Ob.lexAt, lexB]
  | a :: x, [], i, h => by simp [Ob.lexAt, lexB]
  | a :: x, b :: y, i, h => by
    have h0 := h 0 a b rfl rfl
    rw [Nat.add_zero] at h0
    rw [show min (a :: x).length (b :: y).length = min x.length y.length + 1 by simp [Nat.add_min_add_right], Ob.lexAt_succ, h0.1, h0.2]
    have ih := lexAt_lex (e := e) (r := r) (x := x) (y := y) (i := i + 1) fun j p q hp hq => by
      have := h (j + 1) p q (by simpa using hp) (by simpa using hq)
      rw [show i + (j + 1) = i + 1 + j by omega] at this
      exact this
    have e2 : decide ((a :: x).length < (b :: y).length) = decide (x.length < y.length) := by simp
    rw [e2, ih]
    unfold ltT
    rw [lexB]
    by_cases hab : a = b
    · subst hab
      simp [lin_str.irr]
    · simp [hab]
/-- t < u by the tuples' own method -/
theorem tup_ltS {v u : Value} {x y : List Str} (hv : TupS s.heap v x) (hu : TupS s.heap u y) (room : A.units + 1 < cLine) : Ob.RcOp .Lt A s v u (ltT x y) := by
  obtain ⟨a, its, rfl, h1, r1⟩ := hv
  obtain ⟨b, its2, rfl, h2, r2⟩ := hu
  have := Ob.RcOp.tuples_lt (A := A) (e := fun j => decide (x.getD j ⟨#[]⟩ = y.getD j ⟨#[]⟩)) (r := fun j => strLt (x.getD j ⟨#[]⟩) (y.getD j ⟨#[]⟩)) h1 h2 (by omega) (fun j g1 g2 => ?_) fun j g1 g2 _ => ?_
  · have e := lexAt_lex (e := fun j => decide (x.getD j ⟨#[]⟩ = y.getD j ⟨#[]⟩)) (r := fun j => strLt (x.getD j ⟨#[]⟩) (y.getD j ⟨#[]⟩)) (x := x) (y := y) (i := 0) fun j p q hp hq => by
      rw [Nat.zero_add, List.getD_eq_getElem?_getD, List.getD_eq_getElem?_getD, hp, hq]
      exact ⟨rfl, rfl⟩
    rw [List.size_toArray, List.size_toArray, str_len' r1, str_len' r2, e] at this
    exact this
  · obtain ⟨p, t, hp, e1⟩ := str_at r1 (i := j) (x := its.toArray[j]) (by simp at g1 ⊢)
    obtain ⟨q, t2, hq, e2⟩ := str_at r2 (i := j) (x := its2.toArray[j]) (by simp at g2 ⊢)
    rw [e1, e2]
    simp only [List.getD_eq_getElem?_getD, hp, hq, Option.getD_some]
    have := SeqAt.EqAt.str_str (A := A.in1) (s := s) p t q t2
    have e : (p == q) = decide (p = q) := by by_cases h : p = q <;> simp [h]
    rw [e] at this
    exact this
  · obtain ⟨p, t, hp, e1⟩ := str_at r1 (i := j) (x := its.toArray[j]) (by simp at g1 ⊢)
    obtain ⟨q, t2, hq, e2⟩ := str_at r2 (i := j) (x := its2.toArray[j]) (by simp at g2 ⊢)
    rw [e1, e2]
    simp only [List.getD_eq_getElem?_getD, hp, hq, Option.getD_some]
    exact fun prog w E Q h => PyProof.Rows.lt_str h
end
end Lt
namespace Lt
open PySem L2 PySem.Spec PyProof.Rows
section
variable {prog : Program} {w : World} {A : Around} {E : Value → Shared → Prop} {s : Shared}
/-- a text, a tuple of texts, read off the heap -/
def rdS (h : Heap) : Value → List Str
  | .ref a => (match h.get? a with
    | some ⟨_, _, .seq its _, _⟩ => its.toList.filterMap fun v => match v with
      | .str x _ => some x
      | _ => none
    | _ => [])
  | .str x _ => [x]
  | _ => []
theorem strs_back : ∀ {z : List Str} {its : List Value}, Vals (z.map V.str) its → (its.filterMap fun v => match v with
      | .str x _ => some x
      | _ => none) = z
  | [], its, r => by cases r; rfl
  | y :: z, its, r => by
    rw [List.map_cons] at r
    cases r with
    | cons h t =>
      obtain ⟨tk, rfl⟩ := h
      rw [List.filterMap_cons]
      simp only
      rw [strs_back t]
theorem rdS_tup {h : Heap} {v : Value} {z : List Str} (t : TupS h v z) : rdS h v = z := by
  obtain ⟨a, its, rfl, ⟨o, ho, hc, n, hd⟩, r⟩ := t
  obtain ⟨c, d, dt, sl⟩ := o
  simp only at hd
  subst hd
  unfold rdS
  simp only [ho]
  exact strs_back r
abbrev ltV (h : Heap) (v u : Value) : Bool := ltT (rdS h v) (rdS h u)
theorem swo_ltV (h : Heap) : SrtO.Swo (ltV h) := ⟨fun x y q => lin_ltT.swo.asym _ _ q, fun x y z a b => lin_ltT.swo.tr _ _ _ a b⟩
theorem oneLt_tup {v u : Value} {x y : List Str} {Q : Bool → Shared → Prop} (hv : TupS s.heap v x) (hu : TupS s.heap u y) (room : A.units + 1 < cLine) (h : Q (ltT x y) s) : wpAny (model prog w) A (oneLt' true v u) Q E s := by
  obtain ⟨a, its, rfl, h1, r1⟩ := hv
  obtain ⟨b, its2, rfl, h2, r2⟩ := hu
  obtain ⟨⟨cls, dd, data, sl⟩, ho, hc, n, hd⟩ := id h1
  obtain ⟨⟨cls2, dd2, data2, sl2⟩, ho2, hc2, n2, hd2⟩ := id h2
  simp only at hc hd hc2 hd2
  subst hc hd hc2 hd2
  have e := lexAt_lex (e := fun j => decide (x.getD j ⟨#[]⟩ = y.getD j ⟨#[]⟩)) (r := fun j => strLt (x.getD j ⟨#[]⟩) (y.getD j ⟨#[]⟩)) (x := x) (y := y) (i := 0) fun j p q hp hq => by
    rw [Nat.zero_add, List.getD_eq_getElem?_getD, List.getD_eq_getElem?_getD, hp, hq]
    exact ⟨rfl, rfl⟩
  rw [oneLt'_eq]
  simp only [if_true]
  refine wpAny_bind (wpAny_cRoomFor (by omega) ?_)
  refine wpAny_bind (wpAny_callSpecialIfBound?_slot (T := "tuple") (id := "tuple.__lt__") ⟨_, ho, rfl⟩ F.slot_tuple_lt ?_)
  refine call_meets F.slot_tuple_lt ⟨_, ho, rfl⟩ F.entry_tuple_lt (F.args_tuple_lt_2 _ _)
    (Ob.tuple_ltAt a b its.toArray its2.toArray n n2 dd dd2 sl sl2 (fun j => decide (x.getD j ⟨#[]⟩ = y.getD j ⟨#[]⟩)) fun j => strLt (x.getD j ⟨#[]⟩) (y.getD j ⟨#[]⟩)) ⟨ho, ho2, fun j g1 g2 => ?_, fun j g1 g2 _ => ?_, ?_⟩
  · obtain ⟨p, t, hp, e1⟩ := str_at r1 (i := j) (x := its.toArray[j]) (by simp at g1 ⊢)
    obtain ⟨q, t2, hq, e2⟩ := str_at r2 (i := j) (x := its2.toArray[j]) (by simp at g2 ⊢)
    rw [e1, e2]
    simp only [List.getD_eq_getElem?_getD, hp, hq, Option.getD_some]
    have := SeqAt.EqAt.str_str (A := A.in1) (s := s) p t q t2
    have e : (p == q) = decide (p = q) := by by_cases h : p = q <;> simp [h]
    rw [e] at this
    exact this
  · obtain ⟨p, t, hp, e1⟩ := str_at r1 (i := j) (x := its.toArray[j]) (by simp at g1 ⊢)
    obtain ⟨q, t2, hq, e2⟩ := str_at r2 (i := j) (x := its2.toArray[j]) (by simp at g2 ⊢)
    rw [e1, e2]
    simp only [List.getD_eq_getElem?_getD, hp, hq, Option.getD_some]
    exact fun prog w E Q h => PyProof.Rows.lt_str h
  · rw [List.size_toArray, List.size_toArray, str_len' r1, str_len' r2, e]
    exact wpAny_truthy_bool h
/-- items one by one -/
theorem kat_strs {b : Bool} {Q : Bool → Shared → Prop} : ∀ {x y : List Str} {its its2 : List Value} {i : Nat}, Vals (x.map V.str) its → Vals (y.map V.str) its2 → Q (ltT x y) s → PySem.W.KatLex prog w A b (decide (x.length < y.length)) Q (its.zip its2) i s
  | [], y, its, its2, i, r1, r2, h => by
    cases r1
    refine PySem.W.kat_nil ?_
    cases y with
    | nil => exact h
    | cons c y => simpa [lexB] using h
  | a :: x, [], its, its2, i, r1, r2, h => by
    cases r2
    rw [List.zip_nil_right]
    exact PySem.W.kat_nil (by simpa [lexB] using h)
  | a :: x, c :: y, its, its2, i, r1, r2, h => by
    rw [List.map_cons] at r1 r2
    cases r1 with
    | cons h1 t1 =>
      cases r2 with
      | cons h2 t2 =>
        obtain ⟨u, rfl⟩ := h1
        obtain ⟨v, rfl⟩ := h2
        rw [List.zip_cons_cons]
        have e2 : decide ((a :: x).length < (c :: y).length) = decide (x.length < y.length) := by simp
        rw [e2]
        have hl : ltT (a :: x) (c :: y) = (strLt a c || (decide (a = c) && ltT x y)) := rfl
        rw [hl] at h
        refine PySem.W.kat_cons (SeqAt.EqAt.str_str a u c v prog w _ _ ?_)
        refine PySem.W.kat_go (fun e => ?_) fun e => ?_
        · have e : a = c := by simpa using e
          subst e
          refine PySem.W.kat_yes (kat_strs t1 t2 ?_)
          simpa [lin_str.irr] using h
        · have e : a ≠ c := by simpa using e
          have h' : Q (strLt a c) s := by simpa [e] using h
          refine PySem.W.kat_no ?_
          cases b && i == 0 with
          | true => exact oneLt_str h'
          | false => exact PySem.W.kat_one _ _ (PyProof.Rows.lt_str h')
theorem firsts_any : ∀ {vs : List Value} {zs : List (List Str)} {Q : List (Option Value) → Shared → Prop}, Paired (TupS s.heap) vs zs → (∀ fs : List (Option Value), Paired (fun (f : Option Value) (z : List Str) => (z = [] ∧ f = none) ∨ ∃ x t, z.head? = some x ∧ f = some (.str x t)) fs zs → Q fs s) → wpAny (model prog w) A (vs.mapM firstOfTuple') Q E s
  | [], _, Q, .nil, h => by rw [List.mapM_nil]; exact wpAny_pure (h [] .nil)
  | v :: vs, z :: zs, Q, .cons t ts, h => by
    obtain ⟨a, its, rfl, ⟨o, ho, hc, n, hd⟩, r⟩ := t
    rw [List.mapM_cons]
    refine wpAny_bind ?_
    rw [PySem.W.kas_first_eq]
    refine wpAny_bind (PySem.W.Looks.here (show PySem.W.Looks (model prog w) s.heap (typeOf (.ref a)) o.cls from (PySem.W.Looks.ld ho).andThen .now) ?_)
    rw [hc, if_neg (by simp)]
    refine wpAny_bind (listItems_at ho hd (wpAny_pure ?_))
    refine wpAny_bind (firsts_any (Q := fun bs s' => wpAny (model prog w) A (pure (its.toArray[0]? :: bs)) Q E s') ts fun fs pf => wpAny_pure (h _ (.cons ?_ pf)))
    cases z with
    | nil => cases r; exact .inl ⟨rfl, rfl⟩
    | cons x z =>
      rw [List.map_cons] at r
      cases r with
      | cons h t =>
        obtain ⟨tk, rfl⟩ := h
        exact .inr ⟨x, tk, rfl, rfl⟩
theorem katTups_of {h : Heap} : ∀ {vs : List Value} {zs : List (List Str)}, Paired (TupS h) vs zs → (∀ z ∈ zs, z ≠ []) → ∃ fs, PySem.W.KatTups h vs fs ∧ fs.length = vs.length ∧ ∀ f ∈ fs, ∃ x t, f = Value.str x t
  | [], _, .nil, _ => ⟨[], PySem.W.KatTups.nil, rfl, by simp⟩
  | v :: vs, z :: zs, .cons t ts, hz => by
    obtain ⟨fs, k1, k2, k3⟩ := katTups_of ts fun z hm => hz z (List.mem_cons_of_mem _ hm)
    obtain ⟨a, its, rfl, ⟨o, ho, hc, n, hd⟩, r⟩ := t
    cases z with
    | nil => exact absurd rfl (hz [] List.mem_cons_self)
    | cons x z =>
      rw [List.map_cons] at r
      cases r with
      | cons h t =>
        obtain ⟨tk, rfl⟩ := h
        refine ⟨.str x tk :: fs, PySem.W.KatTups.cons ho hc hd rfl k1, by simp [k2], fun f hf => ?_⟩
        rcases List.mem_cons.mp hf with e | hf
        · exact ⟨x, tk, e⟩
        · exact k3 f hf
theorem all_some : ∀ {fs : List (Option Value)} {zs : List (List Str)}, Paired (fun (f : Option Value) (z : List Str) => (z = [] ∧ f = none) ∨ ∃ x t, z.head? = some x ∧ f = some (.str x t)) fs zs → (∃ z ∈ zs, z = []) → fs.all (fun x => x.isSome) = false
  | [], _, .nil, h => by
    obtain ⟨z, hz, _⟩ := h
    simp at hz
  | f :: fs, z :: zs, .cons t ts, h => by
    rcases t with ⟨rfl, rfl⟩ | ⟨x, t, h1, rfl⟩
    · simp
    · obtain ⟨z', hz, e⟩ := h
      subst e
      have hz' : [] ∈ zs := by
        rcases List.mem_cons.mp hz with e | hz
        · rw [← e] at h1; simp at h1
        · exact hz
      rw [List.all_cons, all_some ts ⟨[], hz', rfl⟩, Bool.and_false]
/-- how tuples of texts are compared by a sort -/
theorem kind_tups {vs : List Value} {zs : List (List Str)} (t : Paired (TupS s.heap) vs zs) (h2 : 2 ≤ vs.length) :
    ∃ κ, (κ = tuples' true ∨ κ = general' ∨ κ = oneType') ∧ ∀ (Q : SortKind → Shared → Prop) (E : Value → Shared → Prop), Q κ s → wpAny (model prog w) A (keyKind' vs.toArray) Q E s := by
  by_cases hz : ∀ z ∈ zs, z ≠ []
  · obtain ⟨fs, k1, k2, k3⟩ := katTups_of t hz
    refine ⟨_, .inl rfl, fun Q E q => PySem.W.kat_kind (T := .type "str") k1 (by omega) (fun f hf => ?_) (by rfl) ?_⟩
    · obtain ⟨x, t, rfl⟩ := k3 f hf
      exact PySem.W.Looks.now
    · have e : (Value.type "str" != Value.type "tuple") = true := by decide +kernel
      rw [e]
      exact q
  · have hz : ∃ z ∈ zs, z = [] := by
      obtain ⟨z, h⟩ := Classical.not_forall.mp hz
      obtain ⟨h1, h2⟩ := Classical.not_imp.mp h
      exact ⟨z, h1, Classical.not_not.mp h2⟩
    have start : ∀ (Q : SortKind → Shared → Prop) (E : Value → Shared → Prop), (∀ fs : List (Option Value), Paired (fun (f : Option Value) (z : List Str) => (z = [] ∧ f = none) ∨ ∃ x t, z.head? = some x ∧ f = some (.str x t)) fs zs →
        wpAny (model prog w) A (do
          if ((fs.toArray[0]?).bind id).isSome then return general'
          return if (← oneTypeOnly' vs.toArray).isSome then oneType' else general') Q E s) → wpAny (model prog w) A (keyKind' vs.toArray) Q E s := fun Q E q => by
      rw [keyKind'_eq, List.mapM_toArray, map_eq_pure_bind]
      refine wpAny_bind (wpAny_bind (firsts_any t fun fs pf => wpAny_pure ?_))
      have hall : (fs.toArray.all fun x => x.isSome) = false := by
        rw [List.all_toArray]
        exact all_some pf hz
      rw [hall]
      exact q fs pf
    cases zs with
    | nil => obtain ⟨z, h, _⟩ := hz; simp at h
    | cons z zs =>
      by_cases hz0 : z = []
      · refine ⟨oneType', .inr (.inr rfl), fun Q E q => start Q E fun fs pf => ?_⟩
        cases pf with
        | cons p pf =>
          rcases p with ⟨_, rfl⟩ | ⟨x, tk, h1, _⟩
          · rw [if_neg (by simp)]
            rw [oneTypeOnly'_eq, List.mapM_toArray, map_eq_pure_bind]
            have hT : ∀ v ∈ vs, PySem.W.Looks (model prog w) s.heap (typeOf v) (.type "tuple") := by
              have : ∀ {vs : List Value} {zs : List (List Str)}, Paired (TupS s.heap) vs zs → ∀ v ∈ vs, ∃ z, TupS s.heap v z := by
                intro vs zs t
                induction t with
                | nil => intro v hv; simp at hv
                | cons h _ ih =>
                  intro v hv
                  rcases List.mem_cons.mp hv with e | hv
                  · exact ⟨_, e ▸ h⟩
                  · exact ih v hv
              intro v hv
              obtain ⟨z', a, its, rfl, ⟨o, ho, hc, n, hd⟩, r⟩ := this t v hv
              rw [← hc]
              exact (PySem.W.Looks.ld ho).andThen .now
            refine wpAny_bind (wpAny_bind (wpAny_bind (PySem.W.kas_mapM (r := Value.type "tuple") _ (fun v hv Q' hq => (hT v hv).here hq) (wpAny_pure ?_))))
            have hall2 : ((List.map (fun _ => Value.type "tuple") vs).toArray.all fun x => x == Value.type "tuple") = true := by
              simp only [List.all_toArray, List.all_map, List.all_eq_true]
              intro _ _
              rfl
            have h0 : (List.map (fun _ => Value.type "tuple") vs).toArray[0]? = some (Value.type "tuple") := by
              cases vs with
              | nil => simp at h2
              | cons v vs => simp
            rw [h0]
            simp only [hall2, if_true]
            exact wpAny_pure (wpAny_pure q)
          · subst hz0
            simp at h1
      · refine ⟨general', .inr (.inl rfl), fun Q E q => start Q E fun fs pf => ?_⟩
        cases pf with
        | cons p pf =>
          rcases p with ⟨e, _⟩ | ⟨x, tk, h1, rfl⟩
          · exact absurd e hz0
          · rw [if_pos (by simp)]
            exact wpAny_pure q
theorem tupS_keep {h g : Heap} {a : Addr} {v : Value} {z : List Str} (t : TupS h v z) (ha : ∀ o, h.get? a = some o → o.cls ≠ .type "tuple") (k : ∀ b o, b ≠ a → h.get? b = some o → g.get? b = some o) : TupS g v z := by
  obtain ⟨b, its, rfl, ⟨o, ho, hc, n, hd⟩, r⟩ := t
  exact ⟨b, its, rfl, ⟨o, k b o (fun e => ha o (e ▸ ho) hc) ho, hc, n, hd⟩, r⟩
theorem tup_sortable {h0 : Heap} {a : Addr} {vs : List Value} {zs : List (List Str)} (t : Paired (TupS s.heap) vs zs) (h2 : 2 ≤ vs.length) (room : A.units + 1 < cLine) (ha : ∀ o, s.heap.get? a = some o → o.cls ≠ .type "tuple") (hr : ∀ v ∈ vs, ∀ z, TupS s.heap v z → rdS h0 v = z) :
    SrtO.SortableO prog w A s a vs (ltV h0) := by
  intro g keep
  have t' : Paired (TupS g) vs zs := Paired.mapP t fun v z q => tupS_keep q ha keep
  have mem : ∀ {vs : List Value} {zs : List (List Str)}, Paired (TupS s.heap) vs zs → ∀ v ∈ vs, ∃ z, TupS s.heap v z := by
    intro vs zs t
    induction t with
    | nil => intro v hv; simp at hv
    | cons h _ ih =>
      intro v hv
      rcases List.mem_cons.mp hv with e | hv
      · exact ⟨_, e ▸ h⟩
      · exact ih v hv
  obtain ⟨κ, hκ, hk⟩ := kind_tups (prog := prog) (w := w) (A := A) (s := { s with heap := g }) t' h2
  refine ⟨κ, hk, fun p q hp hq => ?_⟩
  obtain ⟨x, hx⟩ := mem t p.1 hp
  obtain ⟨y, hy⟩ := mem t q.1 hq
  have ex := hr _ hp x hx
  have ey := hr _ hq y hy
  have hx' := tupS_keep hx ha keep
  have hy' := tupS_keep hy ha keep
  have e : SrtO.lt2 (ltV h0) p q = ltT x y := by
    show ltT (rdS h0 p.1) (rdS h0 q.1) = _
    rw [ex, ey]
  rw [e]
  rcases hκ with rfl | rfl | rfl
  · obtain ⟨b1, its, e1, ⟨o1, ho1, hc1, n1, hd1⟩, r1⟩ := hx'
    obtain ⟨b2, its2, e2, ⟨o2, ho2, hc2, n2, hd2⟩, r2⟩ := hy'
    rw [e1, e2]
    refine PySem.W.kat_lt ho1 hd1 ho2 hd2 ?_
    have := kat_strs (prog := prog) (w := w) (A := A) (s := { s with heap := g }) (b := true) (Q := fun r s' => s' = { s with heap := g } ∧ r = ltT x y) (i := 0) r1 r2 ⟨rfl, rfl⟩
    rw [List.size_toArray, List.size_toArray, str_len' r1, str_len' r2]
    exact this
  · exact PySem.W.kat_one _ _ (tup_ltS (A := A) (s := { s with heap := g }) hx' hy' room prog w _ _ ⟨rfl, rfl⟩)
  · rw [keyLt'_oneType]
    exact oneLt_tup hx' hy' room ⟨rfl, rfl⟩
theorem str_sortable {h0 : Heap} {a : Addr} {vs : List Value} {zs : List Str} (t : Vals (zs.map V.str) vs) (h2 : 2 ≤ vs.length) : SrtO.SortableO prog w A s a vs (ltV h0) := by
  intro g keep
  have all : ∀ v ∈ vs, ∃ x tk, v = Value.str x tk := fun v hv => by
    obtain ⟨i, hi⟩ := List.mem_iff_getElem?.mp hv
    obtain ⟨y, tk, _, e⟩ := str_at t hi
    exact ⟨y, tk, e⟩
  refine ⟨oneType', fun Q E q => PySem.W.kas_kind (T := .type "str") h2 (fun v hv => ?_) (by decide +kernel) (by rfl) q, fun p q hp hq => ?_⟩
  · obtain ⟨x, tk, rfl⟩ := all v hv
    exact PySem.W.Looks.now
  · obtain ⟨x, tk, ex⟩ := all p.1 hp
    obtain ⟨y, tk2, ey⟩ := all q.1 hq
    have e : SrtO.lt2 (ltV h0) p q = strLt x y := by
      show ltT (rdS h0 p.1) (rdS h0 q.1) = _
      rw [ex, ey]
      simp [rdS, lexB]
    rw [e, ex, ey, keyLt'_oneType]
    exact oneLt_str ⟨rfl, rfl⟩
end
section
variable {prog : Program} {wo : World} {A : Around} {E : Value → Shared → Prop} {s : Shared}
/-- sorted(x), by what it gathers -/
theorem wp_sorted {arg : Value} {vs : List Value} {ltv : Value → Value → Bool} {Q : Value → Shared → Prop} (O : SrtO.Swo ltv) (hz : vs.length ≤ sizeLine)
    (coll : ∀ R : List Value → Shared → Prop, (∀ g tk, (∀ b o, s.heap.get? b = some o → g.get? b = some o) → R vs { s with heap := g, toks := tk }) → wpAny (model prog wo) A.in1 (collect arg) R E s)
    (hS : 2 ≤ vs.length → ∀ (s' : Shared) (a : Addr), (∀ b o, s.heap.get? b = some o → b ≠ a ∧ s'.heap.get? b = some o) → s'.heap.get? a = some (seqObj "list" vs.toArray 0) → SrtO.SortableO prog wo A.in1.in1 s' a vs ltv)
    (h : ∀ (g1 g : Heap) (tk : Nat) (d : Addr) (out : List Value), SrtO.Srtd ltv out → SrtO.Stb ltv out vs → (∀ b o, s.heap.get? b = some o → g1.get? b = some o) → (∀ b o, g1.get? b = some o → g.get? b = some o) → g1.objs.size ≤ d → (∃ n, g.get? d = some (seqObj "list" out.toArray n)) → Q (.ref d) { s with heap := g, toks := tk }) :
    wpAny (model prog wo) A (call (.builtin "sorted") [arg]) Q E s := by
  refine Calls.call_function_entry kind_sorted plain_sorted entry_sorted (args_sorted1 _) ?_
  unfold Builtin.«sorted»
  refine wpAny_bind (m := checkCount "sorted" 1 1 _) (wpAny_pure ?_)
  refine wpAny_bind (coll _ fun g tk kp => ?_)
  refine wpAny_bind (wpAny_newList ?_ hz)
  have hoL : (g.push (seqObj "list" vs.toArray 0)).get? g.objs.size = some (seqObj "list" vs.toArray 0) := Heap.get?_push_size _ rfl
  have kp2 : ∀ b o, s.heap.get? b = some o → b ≠ g.objs.size ∧ (g.push (seqObj "list" vs.toArray 0)).get? b = some o := fun b o e =>
    ⟨Nat.ne_of_lt (Heap.lt_size (kp b o e)), Heap.get?_push_of_some _ (kp b o e)⟩
  show wpAny _ _ _ _ _ { s with heap := g.push (seqObj "list" vs.toArray 0), toks := tk }
  refine wpAny_bind (wpAny_holding (wpAny_call_entry slot_list_sort ⟨_, hoL, rfl⟩ entry_list_sort (SrtO.list_sort_ord (s := { s with heap := g.push (seqObj "list" vs.toArray 0), toks := tk }) O hoL hz (fun h2 => hS h2 _ _ kp2 hoL) fun out hs hb => ⟨_, rfl, ?_⟩) (args_list_sort _)))
  refine wpAny_pure ⟨_, rfl, h g _ tk g.objs.size out hs hb kp (fun b o e => ?_) (Nat.le_refl _) (sortedHeap_at (n := 0) hoL)⟩
  have hb := Heap.lt_size e
  rw [sortedHeap_old (Nat.ne_of_lt hb) (by rw [size_push']; exact Nat.lt_succ_of_lt hb)]
  exact Heap.get?_push_of_some _ e
end
section
variable {G : AMap} {H H1 H2 : Hp} {w w1 w2 : Wd} {W : XK} {S : Sto}
variable {X : Cx} {pins : List (Addr × Obj)} {σ : L2.St} {s : Shared}
def keyS : D → List Str
  | .str x => [x]
  | .tup xs => xs.filterMap fun d => match d with
    | .str x => some x
    | _ => none
  | _ => []
theorem keyS_tup : ∀ {xs : List D}, xs.all isStr = true → xs = (keyS (.tup xs)).map D.str
  | [], _ => rfl
  | .str x :: xs, h => by
    simp only [List.all_cons, Bool.and_eq_true] at h
    have ih := keyS_tup h.2
    have e : keyS (.tup (.str x :: xs)) = x :: keyS (.tup xs) := rfl
    rw [e, List.map_cons, ← ih]
  | .non :: xs, h => by simp [isStr] at h
  | .bl _ :: xs, h => by simp [isStr] at h
  | .int _ :: xs, h => by simp [isStr] at h
  | .fn _ :: xs, h => by simp [isStr] at h
  | .tup _ :: xs, h => by simp [isStr] at h
  | .vl _ :: xs, h => by simp [isStr] at h
  | .vd _ :: xs, h => by simp [isStr] at h
  | .loc _ :: xs, h => by simp [isStr] at h
theorem ltStrs_lex : ∀ x y : List Str, ltStrs (x.map D.str) (y.map D.str) = ltT x y
  | [], [] => rfl
  | [], _ :: _ => rfl
  | _ :: _, [] => rfl
  | a :: x, b :: y => by
    have ih := ltStrs_lex x y
    rw [List.map_cons, List.map_cons, ltStrs, ih]
    have e : (a == b) = decide (a = b) := by by_cases h : a = b <;> simp [h]
    rw [e]; rfl
theorem reps_strs : ∀ {z : List Str} {us : List V}, Reps G H w (z.map D.str) us → us = z.map V.str
  | [], us, h => h
  | x :: z, _, ⟨u, r, e, a, b⟩ => by
    have a : u = .str x := a
    subst e a
    rw [reps_strs b, List.map_cons]
theorem zip3 : ∀ {xs : List D} {us : List V} {vs : List Value}, Reps G H w xs us → Vals us vs → ∃ L : List (D × V × Value), L.map (fun t => t.1) = xs ∧ L.map (fun t => t.2.1) = us ∧ L.map (fun t => t.2.2) = vs ∧ ∀ t ∈ L, Rep G H w t.1 t.2.1 ∧ RelV t.2.1 t.2.2
  | [], us, vs, h, r => by
    have h : us = [] := h
    subst h
    cases r
    exact ⟨[], rfl, rfl, rfl, by simp⟩
  | x :: xs, _, _, ⟨u, r', e, a, b⟩, r => by
    subst e
    cases r with
    | cons h t =>
      obtain ⟨L, l1, l2, l3, l4⟩ := zip3 b t
      rename_i v vs
      refine ⟨(x, u, v) :: L, by rw [List.map_cons, l1], by rw [List.map_cons, l2], by rw [List.map_cons, l3], fun t ht => ?_⟩
      rcases List.mem_cons.mp ht with e | ht
      · subst e; exact ⟨a, h⟩
      · exact l4 t ht
theorem reps_of : ∀ {L : List (D × V × Value)}, (∀ t ∈ L, Rep G H w t.1 t.2.1 ∧ RelV t.2.1 t.2.2) → Reps G H w (L.map fun t => t.1) (L.map fun t => t.2.1) ∧ Vals (L.map fun t => t.2.1) (L.map fun t => t.2.2)
  | [], _ => ⟨rfl, .nil⟩
  | t :: L, h => by
    obtain ⟨a, b⟩ := reps_of fun t ht => h t (List.mem_cons_of_mem _ ht)
    obtain ⟨c, d⟩ := h t List.mem_cons_self
    exact ⟨Reps.cons c a, .cons d b⟩
theorem stb_symm {α : Type} {lt : α → α → Bool} {l m : List α} (h : SrtO.Stb lt l m) : SrtO.Stb lt m l := ⟨h.perm.symm, fun x => (h.cls x).symm⟩
/-- what stands for the items is sorted as the items are -/
theorem sorted_reps {h0 : Heap} {xs : List D} {us : List V} {vs out : List Value} (rs : Reps G H w xs us) (rv : Vals us vs) (hk : ∀ d v u, d ∈ xs → Rep G H w d v → RelV v u → rdS h0 u = keyS d) (hd : ∀ d ∈ xs, ∀ e ∈ xs, ltD d e = ltT (keyS d) (keyS e))
    (h1 : SrtO.Srtd (ltV h0) out) (h2 : SrtO.Stb (ltV h0) out vs) : ∃ us', Reps G H w (sortD xs) us' ∧ Vals us' out := by
  obtain ⟨L, l1, l2, l3, l4⟩ := zip3 rs rv
  have O3 : SrtO.Swo fun x y : D × V × Value => ltV h0 x.2.2 y.2.2 := ⟨fun x y q => (swo_ltV h0).asym _ _ q, fun x y z a b => (swo_ltV h0).tr _ _ _ a b⟩
  obtain ⟨a, b⟩ := isort_ok O3 L
  have e1 : out = (isort (fun x y : D × V × Value => ltV h0 x.2.2 y.2.2) L).map fun t => t.2.2 := by
    have s1 := SrtO.srtd_map (lt := ltV h0) (f := fun t : D × V × Value => t.2.2) a
    have s2 := SrtO.Stb.map (swo_ltV h0) (fun t : D × V × Value => t.2.2) b
    rw [l3] at s2
    exact SrtO.stb_uniq (swo_ltV h0) h1 s1 (h2.trans (stb_symm s2))
  have e2 : sortD xs = (isort (fun x y : D × V × Value => ltV h0 x.2.2 y.2.2) L).map fun t => t.1 := by
    rw [sortD_sort, ← l1]
    refine (isort_map fun x hx y hy => ?_).symm
    have hx1 : x.1 ∈ xs := by rw [← l1]; exact List.mem_map_of_mem hx
    have hy1 : y.1 ∈ xs := by rw [← l1]; exact List.mem_map_of_mem hy
    rw [hd _ hx1 _ hy1, ← hk _ _ _ hx1 (l4 x hx).1 (l4 x hx).2, ← hk _ _ _ hy1 (l4 y hy).1 (l4 y hy).2]
  obtain ⟨c, d⟩ := reps_of (L := isort (fun x y : D × V × Value => ltV h0 x.2.2 y.2.2) L) fun t ht => l4 t (isort_mem ht)
  exact ⟨_, by rw [e2]; exact c, by rw [e1]; exact d⟩
/-- the whole of it, over what is gathered -/
theorem sorted_go (I : Inv X pins σ H s) (hu : X.A.units + 20 < cLine) {m : Bool} {arg : Value} {xs : List D} {us : List V} {vs : List Value} {Q : VK} (st : StoR G w S H) (rs : Reps G H w xs us) (rv : Vals us vs) (hz : us.length ≤ sizeLine) (ok : sortable xs = true)
    (coll : ∀ R : List Value → Shared → Prop, (∀ g tk, (∀ b o, s.heap.get? b = some o → g.get? b = some o) → R vs { s with heap := g, toks := tk }) → wpAny (model X.prog X.w) X.A.in1 (collect arg) R X.xe s)
    (g : GoodN G H w (mkL m (sortD xs) S) Q) : wpAny (model X.prog X.w) X.A (call (.builtin "sorted") [arg]) (EP X pins σ Q) X.xe s := by
  have hlen : vs.length = us.length := rv.length.symm
  have fin : ∀ (hS : 2 ≤ vs.length → ∀ (s' : Shared) (a : Addr), (∀ b o, s.heap.get? b = some o → b ≠ a ∧ s'.heap.get? b = some o) → s'.heap.get? a = some (seqObj "list" vs.toArray 0) → SrtO.SortableO X.prog X.w X.A.in1.in1 s' a vs (ltV s.heap))
      (hk : ∀ d v u, d ∈ xs → Rep G H w d v → RelV v u → rdS s.heap u = keyS d) (hd : ∀ d ∈ xs, ∀ e ∈ xs, ltD d e = ltT (keyS d) (keyS e)),
      wpAny (model X.prog X.w) X.A (call (.builtin "sorted") [arg]) (EP X pins σ Q) X.xe s := fun hS hk hd => by
    refine wp_sorted (swo_ltV s.heap) (by omega) coll hS fun g1 g' tk p out h1 h2 kp kp2 hp hn => ?_
    obtain ⟨us', r1, r2⟩ := sorted_reps rs rv hk hd h1 h2
    obtain ⟨n, hn⟩ := hn
    have I1 : Inv X pins σ H { s with heap := g1, toks := tk } := I.kept kp
    have hfree := I1.hok.fresh hp
    have hl2 : us'.length ≤ sizeLine := by
      rw [r2.length, h2.perm.length_eq]
      omega
    refine ⟨.ref p, L2.upd H p (.lst us'), I1.laid (t' := tk) kp2 hp ⟨hl2, out, n, r2, hn⟩, rfl, GoodN.newLst g st r1 hfree⟩
  unfold sortable at ok
  simp only [Bool.or_eq_true, List.all_eq_true] at ok
  rcases ok with ok | ok
  · have hx : ∀ {xs : List D}, (∀ x ∈ xs, isStr x = true) → ∃ z : List Str, xs = z.map D.str := by
      intro xs
      induction xs with
      | nil => exact fun _ => ⟨[], rfl⟩
      | cons x xs ih =>
        intro h
        obtain ⟨z, hz⟩ := ih fun y hy => h y (List.mem_cons_of_mem _ hy)
        have := h x List.mem_cons_self
        cases x <;> simp [isStr] at this
        rename_i y
        exact ⟨y :: z, by rw [hz]; rfl⟩
    obtain ⟨z, rfl⟩ := hx ok
    have := reps_strs rs
    subst this
    refine fin (fun h2 s' a _ _ => str_sortable rv h2) (fun d v u hd r rr => ?_) fun d hd e he => ?_
    · obtain ⟨y, _, rfl⟩ := List.mem_map.mp hd
      have r : v = .str y := r
      subst r
      obtain ⟨t, rfl⟩ := rr
      rfl
    · obtain ⟨y, _, rfl⟩ := List.mem_map.mp hd
      obtain ⟨y', _, rfl⟩ := List.mem_map.mp he
      show strLt y y' = lexB strLt [y] [y']
      simp [lexB]
  · have one : ∀ d v u, isStrs d = true → Rep G H w d v → RelV v u → TupS s.heap u (keyS d) ∧ ∃ ys, d = .tup ys ∧ ys.all isStr = true := fun d v u hd r rr => by
      cases d with
      | tup ys =>
        have hd : ys.all isStr = true := hd
        obtain ⟨a, ws, rfl, rd, q⟩ := (show ∃ a us, v = .ref a ∧ Rd H a (.tup us) ∧ Reps G H w ys us from r)
        cases rr
        have ey := keyS_tup hd
        rw [ey] at q
        have := reps_strs q
        subst this
        obtain ⟨_, its, r2, o, ho, hc, n, hdt⟩ := rd.ok I.hok
        exact ⟨⟨a, its, rfl, ⟨o, ho, hc, n, hdt⟩, r2⟩, ys, rfl, hd⟩
      | _ => simp [isStrs] at hd
    have pair : ∀ {xs : List D} {us : List V} {vs : List Value}, (∀ x ∈ xs, isStrs x = true) → Reps G H w xs us → Vals us vs → Paired (TupS s.heap) vs (xs.map keyS) := by
      intro xs
      induction xs with
      | nil =>
        intro us vs _ h r
        have h : us = [] := h
        subst h
        cases r
        exact .nil
      | cons x xs ih =>
        intro us vs hx h r
        obtain ⟨u, r', rfl, a, b⟩ := h
        cases r with
        | cons h t => exact .cons (one x u _ (hx x List.mem_cons_self) a h).1 (ih (fun y hy => hx y (List.mem_cons_of_mem _ hy)) b t)
    have tp := pair ok rs rv
    refine fin (fun h2 s' a kp hl => ?_) (fun d v u hd r rr => rdS_tup (one d v u (ok d hd) r rr).1) fun d hd e he => ?_
    · have tp' : Paired (TupS s'.heap) vs (xs.map keyS) := Paired.mapP tp fun v z ⟨b, its, e, ⟨o, ho, hc, n, hd⟩, r⟩ => ⟨b, its, e, ⟨o, (kp b o ho).2, hc, n, hd⟩, r⟩
      refine tup_sortable tp' h2 (by show X.A.units + 1 + 1 + 1 < cLine; omega) (fun o e => by rw [hl] at e; cases e; simp [seqObj]) fun v hv z hz => ?_
      have : ∃ z', TupS s.heap v z' := by
        have mem : ∀ {vs : List Value} {zs : List (List Str)}, Paired (TupS s.heap) vs zs → ∀ v ∈ vs, ∃ z, TupS s.heap v z := by
          intro vs zs t
          induction t with
          | nil => intro v hv; simp at hv
          | cons h _ ih =>
            intro v hv
            rcases List.mem_cons.mp hv with e | hv
            · exact ⟨_, e ▸ h⟩
            · exact ih v hv
        exact mem tp v hv
      obtain ⟨z', b, its, e, ⟨o, ho, hc, n, hd⟩, r⟩ := this
      have hz' : TupS s'.heap v z' := ⟨b, its, e, ⟨o, (kp b o ho).2, hc, n, hd⟩, r⟩
      rw [rdS_tup ⟨b, its, e, ⟨o, ho, hc, n, hd⟩, r⟩, ← rdS_tup hz', rdS_tup hz]
    · have hd1 := ok d hd
      have he1 := ok e he
      cases d <;> simp [isStrs] at hd1
      cases e <;> simp [isStrs] at he1
      rename_i ys ys'
      have h1 := keyS_tup (xs := ys) (by simpa using hd1)
      have h2 := keyS_tup (xs := ys') (by simpa using he1)
      show ltStrs ys ys' = _
      conv => lhs; rw [h1, h2]
      exact ltStrs_lex _ _
theorem sorted_ok (hc : X.calm = true) (hu : X.A.units + 20 < cLine) (m : Bool) : CallR X (.builtin "sorted") (rDC G fun S a => builtin m S .sorted a) := by
  intro pins s σ H vs us Q I r ⟨x, w, S, a, ev, st, ra, g⟩
  subst ev
  replace g : GoodN G H w (sortedD m S a) Q := g
  unfold sortedD at g
  obtain ⟨u, rfl, ru⟩ := vals1 r
  split at g
  · rename_i xs hv
    split at g
    · rename_i ok
      obtain ⟨c, ws, rfl, rd, q⟩ := lst_at st ra (view_lst hv)
      cases ru
      obtain ⟨hz, its, n, rv, hl, e⟩ := lst_obj I rd
      refine sorted_go I hu st q rv hz ok (fun R hR => ?_) g
      refine collect_list (vs := its) ⟨_, e, rfl, n, rfl⟩ (hR _ _ fun b o hb => ?_) (by omega)
      have hlt := Heap.lt_size hb
      rw [Heap.get?_update_ne _ _ _ _ (Nat.ne_of_lt hlt)]
      exact Heap.get?_push_of_some _ hb
    · exact g.elim
  · rename_i kvs hv
    split at g
    · rename_i ok
      simp only [Bool.and_eq_true] at ok
      obtain ⟨c, rfl, d⟩ := dct_at st ra (view_dct hv)
      cases ru
      rcases d with ⟨L, rd, rt⟩ | ⟨L, rd, rk⟩ | ⟨L, rd, mx, _⟩
      rotate_left 2
      · exact (mixd_T mx ok.2).elim
      · obtain ⟨z, hs, ks, pr, o, es, ep, ho, hx, hdt, he, hn⟩ := (show ObjOk X.prog X.w H s.heap c (.dT L) from rd.ok I.hok)
        have l1 : es.size = ks.length := size_of_entries he
        have l2 : L.length = ks.length := Paired.length pr
        have rk : IsKeys H L (ks.map fun x => x.2.1) := isKeys_of pr
        have rs := keys_reps rt rk
        have rv : Vals ((ks.map fun x => x.2.1).map V.ref) ((ks.map fun x => x.2.1).map Value.ref) := vals_refs _
        refine sorted_go I hu st rs rv (by simp; omega) ok.1 (fun R hR => ?_) g
        refine PySem.W.kdu_collect (kdl_raw hs hx hdt) (I.ok.hd hc) ho (by omega) fun g' tk acc kp it => ?_
        have ea : acc.toList = (ks.map fun x => x.2.1).map Value.ref := by
          apply List.ext_getElem?
          intro j
          rcases Nat.lt_or_ge j es.size with h | h
          · have h1 : j < acc.size := by rw [it.1]; exact h
            obtain ⟨en, h2, h3⟩ := it.2 j acc[j] (by simp [h1])
            have h4 : es.toList[j]? = some en := by rw [Array.getElem?_toList]; exact h2
            rw [he, List.getElem?_map] at h4
            cases hk : ks[j]? with
            | none =>
              have := List.getElem?_eq_none_iff.mp hk
              omega
            | some y =>
              rw [hk] at h4
              obtain rfl : _ = en := by simpa using h4
              rw [Array.getElem?_toList, List.getElem?_map, List.getElem?_map, hk]
              simp [h1, h3, entryOfKey]
          · rw [List.getElem?_eq_none (by rw [Array.length_toList, it.1]; exact h), List.getElem?_eq_none (by simp; omega)]
        rw [ea]
        exact hR _ _ kp
      · have e : kvs = [] := by
          cases kvs with
          | nil => rfl
          | cons p r =>
            have h1 := repK_keys rk
            have h2 := ok.2
            simp only [List.all_cons, Bool.and_eq_true] at h1 h2
            exact (keyTK h2.1 h1.1).elim
        subst e
        have e : L = [] := rk
        subst e
        obtain ⟨z, lo, vs, rel, dd⟩ := dk_rd I.hok rd
        cases rel
        obtain ⟨ep, hat⟩ := dd.dictAt
        refine sorted_go (xs := []) (us := []) (vs := []) I hu st rfl .nil (by simp) rfl (fun R hR => ?_) g
        refine PySem.W.kdu_collect (PySem.W.kdl_dict (knd := mixKind X.prog X.w) (kvs := []) (ep := ep) lo) (I.ok.hd hc) hat (by simp) fun g' tk acc kp it => ?_
        have ea : acc.toList = [] := by
          have := it.1
          simpa using this
        rw [ea]
        exact hR _ _ kp
    · exact g.elim
  · exact g.elim
end
end Lt
namespace Lt
open PySem L2 PySem.Spec PyProof.Rows
section
variable {G : AMap} {H H1 H2 : Hp} {w w1 w2 : Wd} {W : XK} {S : Sto}
variable {X : Cx} {pins : List (Addr × Obj)} {σ : L2.St} {s : Shared}
theorem enumD_at : ∀ (xs : List D) (k i : Nat), (enumD k xs)[i]? = (xs[i]?).map fun x => D.tup [.int ((k + i : Nat) : Int), x]
  | [], k, i => by simp [enumD]
  | x :: xs, k, 0 => by simp [enumD]
  | x :: xs, k, i + 1 => by
    rw [enumD, List.getElem?_cons_succ, enumD_at xs (k + 1) i, List.getElem?_cons_succ, show k + 1 + i = k + (i + 1) by omega]
theorem enumD_len : ∀ (xs : List D) (k : Nat), (enumD k xs).length = xs.length
  | [], _ => rfl
  | x :: xs, k => by simp [enumD, enumD_len xs]
theorem si_enum {e : Expr} {elts : List Expr} {kk : Nat} {tpos p pos : Pos} {f : fE} (pu : Bool) (hg : Gl X (Str.ofString "enumerate")) (hm : X.mg (Str.ofString "enumerate") = none) (hs : noStar e = true) (ha : PE X e (tEV G W f)) :
    PI X (.Tuple elts kk tpos) (.Call (.Name (Str.ofString "enumerate") p) [e] [] pos) (iEV G W pu fun σ S => (f σ S).bind fun x S1 => enumS x S1) := by
  refine pi_imp (pi_enum hg hm (pa_cons ha pa_nil (star_of hs [] X.env)) (star_of hs [] X.env)) fun σ H Q ⟨w, σD, S, sl, st, q⟩ => ⟨w, σD, S, sl, st, ?_⟩
  cases e1 : f σD S with
  | bad => simp only [e1, R.bind] at q; exact q.elim
  | exc x S1 => simp only [e1, R.bind] at q; exact q
  | ok d S1 =>
    simp only [e1, R.bind] at q
    intro w2 v H2 ex st2 r
    cases d with
    | vl xs =>
      simp only [enumS] at q
      obtain ⟨_, ys, hx, q⟩ := q
      cases hx
      obtain ⟨a, us, rfl, hF, rd, rs⟩ := (show ∃ a us, v = .ref a ∧ w2.Fz a ∧ Rd H2 a (.lst us) ∧ Reps G H2 w2 xs us from r)
      refine ⟨a, us, rfl, SqL.rd rd, q w2 H2 ex st2 _ ?_⟩
      intro i w3 H3 S3 ex3 st3 _
      have rd3 : Rd H3 a (.lst us) := ex3.rdF (fun _ _ z => by cases z) hF rd
      have rs3 := Reps.mono ex3 _ _ rs
      rw [enumD_len]
      refine ⟨fun h => ⟨us, SqL.rd rd3, by rw [Reps.length rs]; exact h⟩, fun x hx => ?_⟩
      rw [enumD_at] at hx
      cases hi : xs[i]? with
      | none => rw [hi] at hx; cases hx
      | some y =>
        rw [hi] at hx
        cases hx
        obtain ⟨u, hu, ru⟩ := Reps.get rs3 hi
        refine ⟨⟨us, u, SqL.rd rd3, hu⟩, fun v H' ⟨T, x', ev, hT, eH, hxs⟩ => ?_⟩
        have := hxs us (SqL.rd rd3)
        rw [hu] at this
        obtain rfl := Option.some.inj this
        subst ev eH
        refine ⟨w3, Ext.upd st3 hT, st3.upd hT, ?_⟩
        rw [Nat.zero_add]
        exact upd_tup st3 hT (Reps.cons rfl (Reps.cons ru Reps.nil))
    | _ => exact q.elim
theorem rgV_reps (n : Int) : Reps G H w (rangeD n.toNat) (L2.rgV 0 n) := by
  have e : L2.rgV 0 n = (List.range n.toNat).map fun (i : Nat) => V.int (i : Int) := by
    unfold L2.rgV
    simp only [Int.sub_zero, Int.zero_add]
  rw [e]
  unfold rangeD
  induction List.range n.toNat with
  | nil => exact rfl
  | cons i l ih => exact Reps.cons rfl ih
theorem sd_lrng {a : Expr} {f : fE} {m : Bool} {p p2 pos pos2 : Pos} (hc : X.calm = true) (hg : Gl X (Str.ofString "list")) (hm : X.mg (Str.ofString "list") = none) (hg2 : Gl X (Str.ofString "range")) (hm2 : X.mg (Str.ofString "range") = none) (hs : noStar a = true) (ha : PE X a (tEV G W f)) :
    PE X (.Call (.Name (Str.ofString "list") p) [.Call (.Name (Str.ofString "range") p2) [a] [] pos2] [] pos) (tEV G W fun σ S => (f σ S).bind fun x S1 => lrngS m x S1) := by
  refine pe_imp (pe_listRg hc hg hm (prg_1 hg2 hm2 ha (star_of hs [] X.env)) rfl) fun σ H Q q => ?_
  obtain ⟨w, σD, S, sl, st, q1⟩ := tEV_bind (f := f) (g := fun _ x S1 => lrngS m x S1) q
  refine ⟨w, σD, S, sl, st, GoodR.imp q1 fun x H1 ⟨w, σD, S, d, sl, st, r, q⟩ => ?_⟩
  cases d with
  | int n =>
    cases r
    simp only [lrngS] at q
    split at q
    · rename_i hn
      exact ⟨n, rfl, ⟨by omega, by omega, by omega, by omega, by omega⟩, fun l hl => GoodR.newLst q st (rgV_reps n) hl⟩
    · exact q.elim
  | _ => exact q.elim
end
end Lt
namespace Lt
open PySem L2 PySem.Spec PySem.Calls PySem.W PyProof.Rows
section
variable {G : AMap} {H H' H1 H2 : Hp} {w w1 w2 : Wd} {W : XK} {S S1 S2 : Sto} {X : Cx} {pos : Pos}
theorem pg_star {x y : Str} {px py ps : Pos} {k : Nat} {t : TGs} (hc : X.calm = true) (h : PGs X [.Name x px, .Name y py] t) :
    PG X (.Tuple [.Name x px, .Starred (.Name y py) ps] k pos) (fun v σ H Q => ∃ a u us, v = .ref a ∧ Rd H a (.lst (u :: us)) ∧ us.length ≤ 4096 ∧ ∀ p, H p = none → t [u, .ref p] σ (L2.upd H p (.lst us)) Q) := by
  refine ⟨fun pins s σ H v u0 Q I r hw => ?_⟩
  obtain ⟨a, u, us, e1, rd, hus, hw⟩ := hw
  subst e1
  cases r
  obtain ⟨its, rv, ht, hz⟩ := I.list (SqL.rd rd)
  cases rv with
  | cons r1 rr =>
    rename_i u1 rest
    have hlen := rr.length
    have hl : s.heap.IsList a (u1 :: rest).toArray := ht.isList
    have hh := I.ok.hd hc
    have hlt : a ≠ s.heap.objs.size := by obtain ⟨o, ho, _⟩ := hl; exact Nat.ne_of_lt (Heap.lt_size ho)
    have hll : a < s.heap.objs.size := by obtain ⟨o, ho, _⟩ := hl; exact Heap.lt_size ho
    have hsz : (u1 :: rest).toArray.size = rest.length + 1 := by simp
    rw [assign_Tuple]
    refine wpAny_bind (wpAny_standAt ?_)
    unfold unpack
    show wpAny _ _ (holding [.ref a] (unpackItems (.ref a) 2 (some 1)) >>= fun l => assignInOrder [assign (.Name x px) X.env, assign (.Name y py) X.env] l) _ _ _
    refine wpAny_bind (wpAny_holding ?_)
    unfold unpackItems
    refine wpAny_bind ?_
    unfold notIterableAtAll
    refine wpAny_bind (wpAny_specialOf hl.typeIs slot_list_iter.lookup ?_)
    refine wpAny_pure ?_
    simp only [Bool.false_eq_true, if_false]
    refine wpAny_bind (wpAny_holding (wpAny_pyIter_list hl ?_))
    refine wpAny_bind (wpAny_holding (kun_draw hlt 1 0 _ _ ⟨_, Heap.get?_push_size _ rfl, rfl, rfl⟩ (hl.push _) (by rw [hsz]; omega) fun h₁ hit₁ hs₁ => ?_))
    have hl₁ : h₁.IsList a (u1 :: rest).toArray := (hl.push _).extBut hs₁.extBut hlt
    rw [Nat.zero_add] at hit₁
    obtain ⟨oi, hoi, _⟩ := id hit₁
    obtain ⟨ol, hol, _⟩ := id hl₁
    rw [List.drop_zero]
    have hfl : ((u1 :: rest).toArray.toList.take 1).length = 1 := by simp
    rw [if_neg (show ¬ (((u1 :: rest).toArray.toList.take 1).length < 1) by rw [hfl]; omega)]
    refine wpAny_bind (wpAny_holding (kun_collect (s := { s with heap := h₁ }) (T := "list_iterator") (.inr (.inr (.inl rfl))) (Walks.list (A := X.A.in1) hh s.heap.objs.size a hlt (u1 :: rest).toArray) (fun j u st => st.1.typeIs) (k := 1) (by rw [hsz]; omega) ⟨hit₁, hl₁⟩ (Heap.lt_size hoi) (Heap.lt_size hol) (fun h₂ tk hk => ?_) (by rw [hsz, sizeLine_eq]; omega)))
    have he : Heap.ExtBut s.heap.objs.size s.heap h₂ := fun b o hb e => hk b o hb (hs₁.extBut b o hb (Heap.get?_push_of_some _ e))
    have hr : (u1 :: rest).toArray.toList.drop 1 = rest := by simp
    have hf : (u1 :: rest).toArray.toList.take 1 = [u1] := by simp
    rw [hr, hf]
    show wpAny _ _ (if rest.length < 0 then _ else _) _ _ _
    rw [if_neg (by omega)]
    show wpAny _ _ (newList (rest.take (rest.length - 0)) >>= fun d => pure ([u1] ++ [d] ++ rest.drop (rest.length - 0))) _ _ _
    rw [Nat.sub_zero, List.take_length, List.drop_length]
    refine wpAny_bind (wpAny_newList ?_ (by rw [sizeLine_eq]; omega))
    refine wpAny_pure ?_
    have I1 : Inv X pins σ H { s with heap := h₂, toks := tk } := I.kept fun b o e => he b o (Nat.ne_of_lt (Heap.lt_size e)) e
    have hoL : (h₂.push (seqObj "list" rest.toArray 0)).get? h₂.objs.size = some (seqObj "list" rest.toArray 0) := Heap.get?_push_size _ rfl
    have I2 : Inv X pins σ (L2.upd H h₂.objs.size (.lst us)) { s with heap := h₂.push (seqObj "list" rest.toArray 0), toks := tk } := I1.laid (t' := tk) (fun b o e => Heap.get?_push_of_some _ e) (Nat.le_refl _)
      (show ObjOk X.prog X.w _ _ _ (.lst us) from ⟨by rw [sizeLine_eq]; omega, rest, 0, rr, hoL⟩)
    exact h.run pins _ σ _ [u, .ref h₂.objs.size] [u1, .ref h₂.objs.size] Q I2 (.cons r1 (.cons rfl .nil)) (hw _ (I1.hok.fresh (Nat.le_refl _)))
theorem sg_star (hc : X.calm = true) (hN : X.N.Nodup) {x y : Str} {px py ps : Pos} {i j k : Nat} (h : namesAt X.N X.env.scope X.fn [.Name x px, .Name y py] [i, j] = true) : PG X (.Tuple [.Name x px, .Starred (.Name y py) ps] k pos) (gST G W (starS i j)) := by
  refine pg_imp (pg_star hc (sgs_names (G := G) hN h)) fun v σ H Q ⟨w, σD, S, d, sl, st, r, q⟩ => ?_
  unfold starS at q
  split at q
  · rename_i x xs e1
    split at q
    · rename_i hx
      obtain ⟨c, us, rfl, rd, rs⟩ := lst_at st r e1
      obtain ⟨u, us2, rfl, r1, r2⟩ := (show ∃ u r, us = u :: r ∧ Rep G H w x u ∧ Reps G H w xs r from rs)
      refine ⟨c, u, us2, rfl, rd, ?_, fun p hp => ?_⟩
      · have := Reps.length r2
        omega
      · have ex := Ext.froze (o := .lst us2) st hp
        have st2 := st.froze (o := .lst us2) hp
        have rv : Rep G (L2.upd H p (.lst us2)) (w.froze p) (.vl xs) (.ref p) := ⟨p, _, rfl, .inr rfl, .inl upd_same, Reps.mono ex _ _ r2⟩
        exact ⟨w.froze p, S, [x, .vl xs], σD, _, sl.mono ex, st2, ⟨u, _, rfl, Rep.mono ex _ _ r1, _, _, rfl, rv, rfl⟩, rfl, fun σ2 sl2 _ => q _ σ2 _ ex st2 sl2⟩
    · exact q.elim
  · exact q.elim
end
end Lt
namespace Lt
open PySem L2 PySem.Spec PyProof.Rows
theorem eval_calv (a b : Expr) (p : Pos) (args : List Expr) (pos : Pos) (env : Env) : eval (.Call (.Subscript a b p) args [] pos) env = (do
    callWith pos (← eval (.Subscript a b p) env) [] (backTo pos (starEach args env)) (backToKw pos (keywordEach [] env))) := rfl
theorem sd_calv {G : AMap} {W : XK} {X : Cx} {P : Prog} {call : Fun → List D → Sto → O} {k n : Nat} {a b e : Expr} {es : List Expr} {p pos : Pos} {ff : fE} {fes : Slots → Sto → R (List D)} {fz : Bool}
    (hfn : ∀ x F, P.fn x = some F → ∃ a fd, G x = some a ∧ PySem.W.keepIn X.K (.ref a) = true ∧ FnFact X.prog X.w X.K X.mg X.base G k a F fd (call F)) (hr : Room k X.A) (hx : ∀ σ, PassesAt (L2N.CX X.prog X.w) X σ W)
    (hl : ∀ σ S ds S', fes σ S = .ok ds S' → ds.length = n) (hs : noStar e = true) (hss : (es.all noStar) = true) (hf : PE X (.Subscript a b p) (tEV G W ff)) (h : PA X (e :: es) (tEVs G W fes)) :
    PE X (.Call (.Subscript a b p) (e :: es) [] pos) (tEV G W fun σ S => (ff σ S).bind fun g S1 => match g with
      | .fn f => (match arity (P.fn f) n with
        | none => .bad
        | some F => (fes σ S1).bind fun ds S2 => callF call fz F ds S2)
      | _ => .bad) := by
  refine ⟨fun pins s σ H Q I ⟨w, σD, S, sl, st, q⟩ => ?_⟩
  rw [eval_calv]
  refine wpAny_bind (thn (hf.run pins s σ H _ I ⟨w, σD, S, sl, st, GoodR.bind q⟩) fun u s1 ⟨v, H1, I1, r1, w1, d, S1, e1, st1, rd, q1⟩ => ?_)
  cases d with
  | fn x =>
    dsimp only at q1
    obtain ⟨a0, rfl, g0⟩ := rd
    cases r1
    cases hF : arity (P.fn x) n with
    | none => rw [hF] at q1; exact q1.elim
    | some F =>
      rw [hF] at q1
      dsimp only at q1
      obtain ⟨hP, ha⟩ : P.fn x = some F ∧ n ≤ F.np ∧ F.np ≤ n + F.dfl.length := by
        unfold arity at hF
        split at hF
        · split at hF
          · cases hF; exact ⟨by assumption, by assumption⟩
          · cases hF
        · cases hF
      obtain ⟨a2, fd, g2, kp, fact⟩ := hfn x F hP
      rw [g0] at g2
      cases g2
      obtain ⟨fok, hb, _⟩ := fact.ok
      obtain ⟨ds0, hbd, hv⟩ := hb (n + F.dfl.length - F.np) (by omega)
      refine PySem.W.callWith_K (h₀ := X.base) I1.ok.mod.kin kp (thn (h.run pos pins s1 σ H1 (fun vs H2 => spF G F.np (call F) (vs ++ (F.dfl.drop (n + F.dfl.length - F.np)).map constV) H2 Q W) I1 ?_) fun us s2 ⟨vs, H2, I2, r2, q2⟩ => ⟨I2.kIn, ?_⟩) (star_of hs es X.env) (stars_of hss pos X.env)
      · refine ⟨w1, σD, S1, sl.mono e1, st1, ?_⟩
        cases e3 : fes σD S1 with
        | bad => rw [e3] at q1; exact q1.elim
        | exc y S2 => rw [e3] at q1; exact q1
        | ok ds S2 =>
          rw [e3] at q1
          simp only [R.bind] at q1
          have hn := hl _ _ _ _ e3
          intro w2 vs H2 ex st2 rs
          unfold callF at q1
          rw [hn] at q1
          refine ⟨?_, w2, _, S2, st2, Reps.append rs (reps_const (all_drop _ fact.con)), finish_ok st2 (GoodR.mono ex q1)⟩
          rw [List.length_append, Reps.length rs, hn, List.length_map, List.length_drop]
          omega
      · exact run_fnSD (E := fun _ => W) fok hr hbd hv (hx σ) I2 r2 q2
  | _ => exact q1.elim
end Lt
namespace Lt
open PySem L2 PySem.Spec PyProof.Rows
section
variable {G : AMap} {H H1 H2 : Hp} {w w1 w2 : Wd} {W : XK} {S S1 : Sto} {X : Cx} {pos pos' tpos : Pos}
theorem RepF.find : ∀ {fs : List (Str × D)} {gs : List (Str × V)} (f : Str), RepF G H w fs gs → (∀ d, getF fs f = some d → ∃ u, gs.lookup f = some u ∧ Rep G H w d u) ∧ (getF fs f = none → gs.lookup f = none)
  | [], _, f, h => by
    obtain rfl : _ = [] := h
    exact ⟨fun d e => (by cases e), fun _ => rfl⟩
  | (g, d0) :: fs, _, f, ⟨u, gs', e, r, q⟩ => by
    subst e
    have ih := RepF.find (fs := fs) (gs := gs') f q
    unfold getF at ih ⊢
    rw [List.find?_cons, List.lookup_cons]
    by_cases h : g = f
    · subst h
      simp only [decide_true, beq_self_eq_true]
      exact ⟨fun d e => ⟨u, rfl, by cases e; exact r⟩, fun e => by cases e⟩
    · have h2 : (f == g) = false := by simpa using Ne.symm h
      simp only [h, decide_false, h2]
      exact ih
theorem RepF.put {f : Str} {d : D} {u : V} (r : Rep G H w d u) : ∀ {fs : List (Str × D)} {gs : List (Str × V)}, RepF G H w fs gs → RepF G H w (Lt.putF fs f d) (L2.putF f u gs)
  | [], _, h => by
    obtain rfl : _ = [] := h
    exact ⟨u, [], rfl, r, rfl⟩
  | (g, d0) :: fs, _, ⟨u0, gs', e, r0, q⟩ => by
    subst e
    unfold Lt.putF L2.putF
    by_cases h : f = g
    · subst h
      rw [if_pos rfl, if_pos rfl]
      exact ⟨u, gs', rfl, r, q⟩
    · rw [if_neg h, if_neg (Ne.symm h)]
      exact ⟨u0, _, rfl, r0, RepF.put r q⟩
theorem RepF.len : ∀ {fs : List (Str × D)} {gs : List (Str × V)}, RepF G H w fs gs → gs.length = fs.length
  | [], _, h => by
    obtain rfl : _ = [] := h
    rfl
  | (g, d0) :: fs, _, ⟨u0, gs', e, r0, q⟩ => by
    subst e
    rw [List.length_cons, List.length_cons, RepF.len q]
/-- an instance at a place -/
theorem ins_at (st : StoR G w S H) {l : Nat} {v : V} {c : Str} {fs : List (Str × D)} (r : Rep G H w (.loc l) v) (e : S[l]? = some (.ins c fs)) :
    ∃ a C dx gs, v = .ref a ∧ w.ph[l]? = some a ∧ G c = some C ∧ H a = some (.ins C dx gs) ∧ RepF G H w fs gs := by
  obtain ⟨a, rfl, hp⟩ := r
  obtain ⟨o, h1, h2⟩ := st.ob l a hp
  rw [e] at h1
  cases h1
  obtain ⟨C, dx, gs, g, h3, h4⟩ := h2
  exact ⟨a, C, dx, gs, rfl, hp, g, h3, h4⟩
/-- what is known of a class of the program -/
structure ClsFact (X : Cx) (G : AMap) (P : Prog) (c : Str) : Prop where
  at_ : ∃ C, G c = some C ∧ Cls X.K C ∧ ∀ f, (P.flds c).contains f = true → NoAttr X.K C f
variable {P : Prog}
theorem sd_fld {e : Expr} {f : Str} {ff : fE} (hc : ∀ c, (P.flds c).contains f = true → ClsFact X G P c) (he : PE X e (tEV G W ff)) (hs : noSup e = true) :
    PE X (.Attribute e f pos) (tEV G W fun σ S => (ff σ S).bind fun x S1 => match fldGet P S1 x f with
      | some d => .ok d S1
      | none => .bad) := by
  refine pe_imp (pe_fld he (base_of hs _ _ _)) fun σ H Q ⟨w, σD, S, sl, st, q⟩ => ⟨w, σD, S, sl, st, GoodR.imp (GoodR.bind q) fun v H2 ⟨w2, d, S2, e2, st2, rd, q2⟩ => ?_⟩
  cases e3 : fldGet P S2 d f with
  | none => rw [e3] at q2; exact q2.elim
  | some u =>
    rw [e3] at q2
    unfold fldGet at e3
    split at e3
    · rename_i l
      split at e3
      · rename_i c fs hS
        split at e3
        · rename_i hf
          obtain ⟨a, C, dx, gs, rfl, hp, g, hH, rf⟩ := ins_at st2 rd hS
          obtain ⟨C2, g2, cl, na⟩ := (hc c hf).at_
          rw [g] at g2
          cases g2
          obtain ⟨y, hy, ry⟩ := (RepF.find f rf).1 u e3
          exact ⟨a, C, dx, gs, y, rfl, hH, cl, na f hf, hy, GoodV.here q2 st2 ry⟩
        · cases e3
      · cases e3
    · cases e3
/-- x.f = value -/
theorem sx_fld {o value : Expr} {f : Str} {fo fv : fE} (hc : ∀ c, (P.flds c).contains f = true → ClsFact X G P c) (ho : PE X o (tEV G W fo)) (hv : PE X value (tEV G W fv)) (hs : swapsWith value (some (.Attribute o f pos')) pos.line X.env = Pure.pure false) :
    PS X (.Assign [.Attribute o f pos'] value pos) (tEX G W fun σ S => match (fv σ S).bind fun d S1 => (fo σ S1).bind fun x S2 => (match fldSet P S2 x f d with
      | some S3 => .ok D.non S3
      | none => .bad) with
      | .ok _ S3 => .nx σ S3
      | .exc x S3 => .exc x S3
      | .bad => .bad) := by
  refine ps_imp (ps_fld ho hv hs) fun D σ H ⟨w, σD, S, sl, st, q⟩ => ⟨w, σD, S, sl, st, ?_⟩
  cases e1 : fv σD S with
  | bad => simp only [e1, R.bind] at q; exact q.elim
  | exc x S1 => simp only [e1, R.bind] at q; exact q
  | ok d S1 =>
    simp only [e1, R.bind] at q
    intro w1 y H1 x1 st1 rd
    refine ⟨w1, σD, S1, sl.mono x1, st1, ?_⟩
    cases e2 : fo σD S1 with
    | bad => simp only [e2, R.bind] at q; exact q.elim
    | exc x S2 => simp only [e2, R.bind] at q; exact GoodX.mono x1 q
    | ok x S2 =>
      simp only [e2, R.bind] at q
      intro w2 ov H2 x2 st2 rx
      cases e3 : fldSet P S2 x f d with
      | none => simp only [e3] at q; exact q.elim
      | some S3 =>
        simp only [e3] at q
        unfold fldSet at e3
        split at e3
        · rename_i l
          split at e3
          · rename_i c fs hS
            split at e3
            · rename_i hf
              simp only [Bool.and_eq_true, decide_eq_true_eq] at hf
              cases e3
              obtain ⟨a, C, dx, gs, rfl, hp, g, hH, rf⟩ := ins_at st2 rx hS
              obtain ⟨C2, g2, cl, na⟩ := (hc c hf.1).at_
              rw [g] at g2
              cases g2
              have hl := RepF.len rf
              refine ⟨a, C, dx, gs, rfl, hH, cl, na f hf.1, by omega, ?_⟩
              have ht : ∀ us, H2 a ≠ some (.tup us) := fun us z => by rw [hH] at z; cases z
              have hz : ∀ x u, H2 a ≠ some (.frz x u) := fun x u z => by rw [hH] at z; cases z
              have ex : Ext H2 w2 (L2.upd H2 a (.ins C dx (L2.putF f y gs))) w2 := Ext.write st2 hp ht hz
              have ob : ObR G (L2.upd H2 a (.ins C dx (L2.putF f y gs))) w2 (.ins c (Lt.putF fs f d)) a := ⟨C, dx, _, g, upd_same, RepF.put (rd.mono (x2.trans ex)) (RepF.mono ex _ _ rf)⟩
              exact q w2 σ _ ((x1.trans x2).trans ex) (st2.write hp ht hz ob) (sl.mono ((x1.trans x2).trans ex))
            · cases e3
          · cases e3
        · cases e3
/-- x.f += a written number -/
theorem sx_fldaug {o value : Expr} {f : Str} {fo : fE} {j : Int} (hc : ∀ c, (P.flds c).contains f = true → ClsFact X G P c) (ho : PE X o (tEV G W fo)) (hv : PE X value (tC (.int j))) :
    PS X (.AugAssign (.Attribute o f tpos) .Add value pos) (tEX G W fun σ S => match (fo σ S).bind fun x S1 => (match fldGet P S1 x f with
        | some u => (R.ok (D.int j) S1).bind fun y S2 => (match augI u y with
          | some z => (match fldSet P S2 x f z with
            | some S3 => .ok D.non S3
            | none => .bad)
          | none => .bad)
        | none => .bad) with
      | .ok _ S3 => .nx σ S3
      | .exc x S3 => .exc x S3
      | .bad => .bad) := by
  refine ps_imp (ps_fldaug ho hv in_add) fun D σ H ⟨w, σD, S, sl, st, q⟩ => ⟨w, σD, S, sl, st, ?_⟩
  cases e1 : fo σD S with
  | bad => simp only [e1, R.bind] at q; exact q.elim
  | exc x S1 => simp only [e1, R.bind] at q; exact q
  | ok x S1 =>
    simp only [e1, R.bind] at q
    intro w1 ov H1 x1 st1 rx
    cases e2 : fldGet P S1 x f with
    | none => simp only [e2] at q; exact q.elim
    | some u =>
      simp only [e2] at q
      unfold fldGet at e2
      split at e2
      · rename_i l
        split at e2
        · rename_i c fs hS
          split at e2
          · rename_i hf
            obtain ⟨a, C, dx, gs, rfl, hp, g, hH, rf⟩ := ins_at st1 rx hS
            obtain ⟨C2, g2, cl, na⟩ := (hc c hf).at_
            rw [g] at g2
            cases g2
            obtain ⟨v, hy, rv⟩ := (RepF.find f rf).1 u e2
            cases e4 : augI u (.int j) with
            | none => simp only [e4] at q; exact q.elim
            | some z =>
              simp only [e4] at q
              obtain ⟨i, j2, rfl, e6, rfl⟩ := augI_some e4
              cases e6
              have rv : v = V.int i := rv
              subst rv
              cases e5 : fldSet P S1 (.loc l) f (.int (i + j)) with
              | none => simp only [e5] at q; exact q.elim
              | some S3 =>
                simp only [e5] at q
                unfold fldSet at e5
                simp only [hS] at e5
                split at e5
                · rename_i hf2
                  simp only [Bool.and_eq_true, decide_eq_true_eq] at hf2
                  cases e5
                  have hl := RepF.len rf
                  refine ⟨a, C, dx, gs, _, rfl, hH, cl, na f hf, hy, i, j, rfl, rfl, dx, gs, hH, by omega, ?_⟩
                  have ht : ∀ us, H1 a ≠ some (.tup us) := fun us z => by rw [hH] at z; cases z
                  have hz : ∀ x u, H1 a ≠ some (.frz x u) := fun x u z => by rw [hH] at z; cases z
                  have ex : Ext H1 w1 (L2.upd H1 a (.ins C dx (L2.putF f (.int (i + j)) gs))) w1 := Ext.write st1 hp ht hz
                  have ob : ObR G (L2.upd H1 a (.ins C dx (L2.putF f (.int (i + j)) gs))) w1 (.ins c (Lt.putF fs f (.int (i + j)))) a := ⟨C, dx, _, g, upd_same, RepF.put (show Rep G _ w1 (.int (i + j)) (.int (i + j)) from rfl) (RepF.mono ex _ _ rf)⟩
                  exact q w1 σ _ (x1.trans ex) (st1.write hp ht hz ob) (sl.mono (x1.trans ex))
                · cases e5
          · cases e2
        · cases e2
      · cases e2
end
end Lt
namespace Lt
open PySem L2 PySem.Spec PyProof.Rows
/-- what is known of a method of the program -/
structure MFact (Pm : Program) (wd : World) (K : PySem.W.Frag) (mg : Str → Option Value) (base : Heap) (G : AMap) (k : Nat) (a : Addr) (F : Fun) (fd : FuncData) (run : List D → Sto → O) : Prop where
  con : (F.dfl.all isC) = true
  len : F.pn.length = F.np
  fok : FnOk Pm wd K mg base (L2N.CX Pm wd) k a fd F.pn (spF G F.np run)
  pos : F.kwo = none → ∀ n, n ≤ F.dfl.length → ∃ ds, Binds K fd F.pn ds ∧ Vals ((F.dfl.drop n).map constV) ds
  kw : ∀ x, F.kwo = some x → F.dfl = [] ∧ ∀ (s : Shared) (us : List Value) (w : Value), K.In s.heap → us.length + 1 = F.np → BindsTo s fd ⟨us, [(x, w)]⟩ (F.pn.zip (us ++ [w]))
/-- the name is no field of the class's instances, but a method -/
structure MthFact (X : Cx) (G : AMap) (k : Nat) (c m : Str) (F : Fun) (run : List D → Sto → O) : Prop where
  at_ : ∃ C a fd, G c = some C ∧ Cls X.K C ∧ Meth X.K C m a ∧ MFact X.prog X.w X.K X.mg X.base G k a F fd run
theorem wp_meth {prog : Program} {w : World} {A : Around} {E : Value → Shared → Prop} {s : Shared} {env : Env} {o : Expr} {name : Str} {apos pos : Pos} {args : List Expr} {kws : List Keyword} {Q : Value → Shared → Prop} (hb : attributeBase o name env (eval o env) = eval o env)
    (hf : methodCallForm (args.length + kws.length) (backTo pos (starEach args env)) (backToKw pos (keywordEach kws env)) = true) (hl : (apos.endLine == pos.line) = true)
    (h : wpAny (model prog w) A (eval o env) (fun ov s1 => wpAny (model prog w) A (getMethod ov name (do return (← importBound o env).getD true)) (fun fx s2 => wpAny (model prog w) A (callWith pos fx.1 fx.2 (backTo pos (starEach args env)) (backToKw pos (keywordEach kws env))) Q E s2) E s1) E s) :
    wpAny (model prog w) A (eval (.Call (.Attribute o name apos) args kws pos) env) Q E s := by
  rw [arm_eval_Call, hb]
  refine wpAny_bind (wpAny_mono h (fun ov s1 h1 => ?_) fun _ _ z => z)
  refine wpAny_bind (wpAny_standAt ?_)
  have hp : methodCallPos true o env apos pos = Pure.pure pos := by
    unfold methodCallPos
    simp [hl]
  unfold methodCall
  rw [hf]
  refine wpAny_bind (wpAny_holding (wpAny_mono h1 (fun fx s2 h2 => ?_) fun _ _ z => z))
  exact wpAny_bind (wpAny_of_eq hp h2)
section
variable {G : AMap} {W : XK} {X : Cx} {P : Prog} {call : Fun → List D → Sto → O} {k n : Nat} {o e : Expr} {es : List Expr} {m : Str} {apos pos kp : Pos} {fo : fE} {fes fks : Slots → Sto → R (List D)} {fz : Bool}
theorem pass_all (hx : ∀ σ, PassesAt (L2N.CX X.prog X.w) X σ W) : Passes (L2N.CX X.prog X.w) X W := fun pins σ H s e s' I c => hx σ pins H s e s' I c
theorem few_pos (h : (es.all noStar) = true) (hl : es.length < 30) : methodCallForm (es.length + ([] : List Keyword).length) (backTo pos (starEach es X.env)) (backToKw pos (keywordEach [] X.env)) = true := few_of h hl pos X.env
theorem few_kw {nm : Str} {v : Expr} (h : (es.all noStar) = true) (hl : es.length < 20) : methodCallForm (es.length + [(⟨some nm, v, kp⟩ : Keyword)].length) (backTo pos (starEach es X.env)) (backToKw pos (keywordEach [⟨some nm, v, kp⟩] X.env)) = true := by
  have h1 := stars_of h pos X.env
  have h2 : (backTo pos (starEach es X.env)).all (fun x => !x.1) = true := by
    rw [List.all_eq_true]
    intro x hx
    have := List.any_eq_false.mp h1 x hx
    simpa using this
  unfold methodCallForm
  rw [h2]
  simp [backToKw, keywordEach]
  omega
theorem methQ_some {S : Sto} {x : D} {m : Str} {n : Nat} {kn : List Str} {F : Fun} (h : methQ P S x m n kn = some F) :
    ∃ l c fs, x = .loc l ∧ S[l]? = some (.ins c fs) ∧ getF fs m = none ∧ P.meth c m = some F ∧ n ≤ F.np ∧ F.np ≤ n + F.dfl.length ∧ F.kwo = kn.head? ∧ kn.length ≤ 1 := by
  unfold methQ at h
  split at h
  · rename_i l
    split at h
    · rename_i c fs hS
      split at h
      · rename_i hn
        split at h
        · rename_i F' ha
          split at h
          · rename_i hk
            cases h
            simp only [Bool.and_eq_true, decide_eq_true_eq] at hk
            unfold arity at ha
            split at ha
            · split at ha
              · rename_i h1 h2
                cases ha
                exact ⟨l, c, fs, rfl, hS, by simpa using hn, h1, h2.1, h2.2, hk.1, hk.2⟩
              · cases ha
            · cases ha
          · cases h
        · cases h
      · cases h
    · cases h
  · cases h
/-- o.m(e, ..) -/
theorem sd_meth (hfn : ∀ c F, P.meth c m = some F → MthFact X G k c m F (call F)) (room : Room k X.A) (hx : ∀ σ, PassesAt (L2N.CX X.prog X.w) X σ W) (hlen : ∀ σ S ds S', fes σ S = .ok ds S' → ds.length = n)
    (hsup : noSup o = true) (hs : noStar e = true) (hss : (es.all noStar) = true) (hl : (e :: es).length < 30) (hline : (apos.endLine == pos.line) = true) (ho : PE X o (tEV G W fo)) (ha : PA X (e :: es) (tEVs G W fes)) :
    PE X (.Call (.Attribute o m apos) (e :: es) [] pos) (tEV G W fun σ S => (fo σ S).bind fun x S1 => match methQ P S1 x m (n + 1) [] with
      | some F => (fes σ S1).bind fun ds S2 => callF call fz F (x :: ds) S2
      | none => .bad) := by
  refine ⟨fun pins s σ H Q I ⟨w, σD, S, sl, st, q⟩ => ?_⟩
  refine wp_meth (base_of hsup _ _ _) (few_pos (by simp [hs, hss]) hl) hline (thn (ho.run pins s σ H _ I ⟨w, σD, S, sl, st, GoodR.bind q⟩) fun ov s1 ⟨v, H1, I1, rv, w1, d, S1, e1, st1, rd, q1⟩ => ?_)
  cases hq : methQ P S1 d m (n + 1) [] with
  | none => rw [hq] at q1; exact q1.elim
  | some F =>
    rw [hq] at q1
    dsimp only at q1
    obtain ⟨l, c, fs, rfl, hS, hm, hP, n1, n2, hk, _⟩ := methQ_some hq
    obtain ⟨a, C, dx, gs, rfl, hp, g, hH, rf⟩ := ins_at st1 rd hS
    obtain rfl : ov = Value.ref a := rv
    obtain ⟨C2, b, fd, g2, cl, mt, mf⟩ := (hfn c F hP).at_
    rw [g] at g2
    cases g2
    obtain ⟨ds0, hbd, hv⟩ := mf.pos hk (n + 1 + F.dfl.length - F.np) (by omega)
    refine getmeth_ok I1 hH cl mt ((RepF.find m rf).2 hm) ?_
    refine PySem.W.callWith_K (first := [.ref a]) (h₀ := X.base) I1.ok.mod.kin mt.kp (thn (ha.run pos pins s1 σ H1 (fun vs H2 => spF G F.np (call F) (.ref a :: (vs ++ (F.dfl.drop (n + 1 + F.dfl.length - F.np)).map constV)) H2 Q W) I1 ?_) fun us s2 ⟨vs, H2, I2, r2, q2⟩ => ⟨I2.kIn, ?_⟩) (star_of hs es X.env) (stars_of hss pos X.env)
    · refine ⟨w1, σD, S1, sl.mono e1, st1, ?_⟩
      cases e3 : fes σD S1 with
      | bad => rw [e3] at q1; exact q1.elim
      | exc y S2 => rw [e3] at q1; exact q1
      | ok ds S2 =>
        rw [e3] at q1
        simp only [R.bind] at q1
        have hn := hlen _ _ _ _ e3
        intro w2 vs H2 ex st2 rs
        unfold callF at q1
        rw [List.length_cons, hn] at q1
        refine ⟨?_, w2, _, S2, st2, Reps.cons (rd.mono ex) (Reps.append rs (reps_const (all_drop _ mf.con))), finish_ok st2 (GoodR.mono ex q1)⟩
        rw [List.length_cons, List.length_append, Reps.length rs, hn, List.length_map, List.length_drop]
        omega
    · exact run_fn (us := .ref a :: us) (vs := .ref a :: vs) mf.fok room hbd hv (pass_all hx) I2 (.cons rfl r2) q2
/-- o.m() -/
theorem sd_meth0 (hfn : ∀ c F, P.meth c m = some F → MthFact X G k c m F (call F)) (room : Room k X.A) (hx : ∀ σ, PassesAt (L2N.CX X.prog X.w) X σ W) (hsup : noSup o = true) (hline : (apos.endLine == pos.line) = true) (ho : PE X o (tEV G W fo)) :
    PE X (.Call (.Attribute o m apos) [] [] pos) (tEV G W fun σ S => (fo σ S).bind fun x S1 => match methQ P S1 x m 1 [] with
      | some F => callF call fz F [x] S1
      | none => .bad) := by
  refine ⟨fun pins s σ H Q I ⟨w, σD, S, sl, st, q⟩ => ?_⟩
  refine wp_meth (base_of hsup _ _ _) (few_pos (es := []) rfl (by decide)) hline (thn (ho.run pins s σ H _ I ⟨w, σD, S, sl, st, GoodR.bind q⟩) fun ov s1 ⟨v, H1, I1, rv, w1, d, S1, e1, st1, rd, q1⟩ => ?_)
  cases hq : methQ P S1 d m 1 [] with
  | none => rw [hq] at q1; exact q1.elim
  | some F =>
    rw [hq] at q1
    dsimp only at q1
    obtain ⟨l, c, fs, rfl, hS, hm, hP, n1, n2, hk, _⟩ := methQ_some hq
    obtain ⟨a, C, dx, gs, rfl, hp, g, hH, rf⟩ := ins_at st1 rd hS
    obtain rfl : ov = Value.ref a := rv
    obtain ⟨C2, b, fd, g2, cl, mt, mf⟩ := (hfn c F hP).at_
    rw [g] at g2
    cases g2
    obtain ⟨ds0, hbd, hv⟩ := mf.pos hk (1 + F.dfl.length - F.np) (by omega)
    refine getmeth_ok I1 hH cl mt ((RepF.find m rf).2 hm) ?_
    refine PySem.W.callWith_K0 (first := [.ref a]) I1.kIn mt.kp (run_fn (us := [.ref a]) (vs := [.ref a]) mf.fok room hbd hv (pass_all hx) I1 (.cons rfl .nil) ?_)
    unfold callF at q1
    refine ⟨?_, w1, _, S1, st1, Reps.cons rd (reps_const (all_drop _ mf.con)), finish_ok st1 q1⟩
    rw [List.length_append, List.length_map, List.length_drop]
    simp
    omega
/-- o.m(e, .., x = v) -/
theorem sd_methK {nm : Str} {v : Expr} {fv : fE} (hfn : ∀ c F, P.meth c m = some F → MthFact X G k c m F (call F)) (room : Room k X.A) (hx : ∀ σ, PassesAt (L2N.CX X.prog X.w) X σ W) (hlen : ∀ σ S ds S', fes σ S = .ok ds S' → ds.length = n)
    (hsup : noSup o = true) (hs : noStar e = true) (hss : (es.all noStar) = true) (hl : (e :: es).length < 20) (hline : (apos.endLine == pos.line) = true) (ho : PE X o (tEV G W fo)) (ha : PA X (e :: es) (tEVs G W fes)) (hv : PE X v (tEV G W fv)) :
    PE X (.Call (.Attribute o m apos) (e :: es) [⟨some nm, v, kp⟩] pos) (tEV G W fun σ S => (fo σ S).bind fun x S1 => match methQ P S1 x m (n + 2) [nm] with
      | some F => (fes σ S1).bind fun ds S2 => (fv σ S2).bind fun u S3 => callF call fz F (x :: (ds ++ [u])) S3
      | none => .bad) := by
  refine ⟨fun pins s σ H Q I ⟨w, σD, S, sl, st, q⟩ => ?_⟩
  refine wp_meth (base_of hsup _ _ _) (few_kw (by simp [hs, hss]) hl) hline (thn (ho.run pins s σ H _ I ⟨w, σD, S, sl, st, GoodR.bind q⟩) fun ov s1 ⟨y, H1, I1, rv, w1, d, S1, e1, st1, rd, q1⟩ => ?_)
  cases hq : methQ P S1 d m (n + 2) [nm] with
  | none => rw [hq] at q1; exact q1.elim
  | some F =>
    rw [hq] at q1
    dsimp only at q1
    obtain ⟨l, c, fs, rfl, hS, hm, hP, n1, n2, hk, _⟩ := methQ_some hq
    obtain ⟨a, C, dx, gs, rfl, hp, g, hH, rf⟩ := ins_at st1 rd hS
    obtain rfl : ov = Value.ref a := rv
    obtain ⟨C2, b, fd, g2, cl, mt, mf⟩ := (hfn c F hP).at_
    rw [g] at g2
    cases g2
    obtain ⟨hd0, hbd⟩ := mf.kw nm hk
    have np : F.np = n + 2 := by rw [hd0] at n2; simp at n2; omega
    refine getmeth_ok I1 hH cl mt ((RepF.find m rf).2 hm) ?_
    have hall : (backToKw pos (keywordEach [⟨some nm, v, kp⟩] X.env)).all (·.1.isSome) = true := by simp [backToKw, keywordEach]
    have hpl : ((backTo pos (starEach (e :: es) X.env)).any (·.1) || (backToKw pos (keywordEach [⟨some nm, v, kp⟩] X.env)).any (·.1.isNone)) = false := by
      have h1 : (backTo pos (starEach (e :: es) X.env)).any (·.1) = false := stars_of (by simp [hs, hss]) pos X.env
      rw [h1]
      simp [backToKw, keywordEach]
    have hks : (backToKw pos (keywordEach [⟨some nm, v, kp⟩] X.env)).filterMap (·.1) = [nm] := by simp [backToKw, keywordEach]
    refine PySem.W.callWith_KW (first := [.ref a]) (h₀ := X.base) I1.ok.mod.kin mt.kp hall (thn (ha.run pos pins s1 σ H1 (fun vs H2 => vs.length = n ∧ tCons (tEV G W fv) tNil σ H2 fun zs H3 => spF G F.np (call F) (.ref a :: (vs ++ zs)) H3 Q W) I1 ?_) fun us s2 ⟨vs, H2, I2, r2, hvn, q2⟩ => ?_) hpl (star_of hs es X.env)
    · refine ⟨w1, σD, S1, sl.mono e1, st1, ?_⟩
      cases e3 : fes σD S1 with
      | bad => rw [e3] at q1; exact q1.elim
      | exc y S2 => rw [e3] at q1; exact q1
      | ok ds S2 =>
        rw [e3] at q1
        simp only [R.bind] at q1
        have hn := hlen _ _ _ _ e3
        intro w2 vs H2 ex st2 rs
        refine ⟨by rw [Reps.length rs, hn], w2, σD, S2, sl.mono (e1.trans ex), st2, ?_⟩
        cases e4 : fv σD S2 with
        | bad => rw [e4] at q1; exact q1.elim
        | exc y S3 => rw [e4] at q1; exact GoodX.mono ex q1
        | ok u S3 =>
          rw [e4] at q1
          simp only [R.bind] at q1
          intro w3 z H3 ex3 st3 rz
          unfold callF at q1
          rw [hd0, List.drop_nil, List.append_nil] at q1
          refine ⟨?_, w3, _, S3, st3, Reps.cons (rd.mono (ex.trans ex3)) (Reps.append (Reps.mono ex3 _ _ rs) (Reps.cons rz Reps.nil)), finish_ok st3 (GoodR.mono (ex.trans ex3) q1)⟩
          rw [List.length_cons, List.length_append, Reps.length rs, hn, np]
          rfl
    · refine thn ((pk_cons (nm := some nm) (kpos := kp) hv pk_nil).run pos pins s2 σ H2 _ I2 q2) fun ws s3 ⟨zs, H3, I3, rz, q3⟩ => ⟨I3.kIn, ?_⟩
      rw [hks]
      have hz : zs.length = 1 := by
        have := q3.1
        rw [List.length_cons, List.length_append, hvn, np] at this
        omega
      obtain ⟨z, rfl⟩ : ∃ z, zs = [z] := List.length_eq_one_iff.mp hz
      obtain ⟨u, rfl, r3⟩ : ∃ u, ws = [u] ∧ RelV z u := by
        cases rz with
        | cons r3 rz =>
          cases rz
          exact ⟨_, rfl, r3⟩
      have hl3 : (Value.ref a :: us).length + 1 = F.np := by rw [List.length_cons, ← r2.length, hvn, np]
      refine wpAny_call (codeAny_mono (mf.fok.run X.A X.stack s3 H3 ⟨Value.ref a :: us, [(nm, u)]⟩ ((Value.ref a :: us) ++ [u]) (V.ref a :: (vs ++ [z])) Q W room I3.env0 (hbd s3 (Value.ref a :: us) u I3.kIn hl3) (.cons rfl (r2.append (.cons r3 .nil))) q3) fun r s' hq' => ?_)
      cases r with
      | error er => exact (pass_all hx) pins σ H3 s3 er s' I3 hq'
      | ok fl =>
        cases fl with
        | ret u => exact I3.after hq'
        | next => exact hq'.elim
        | brk => exact hq'.elim
        | cont => exact hq'.elim
end
end Lt
namespace Lt
open PySem L2 PySem.Spec PyProof.Rows
/-- a class that is made -/
structure NewFact (X : Cx) (G : AMap) (k : Nat) (c : Str) (F : Fun) (run : List D → Sto → O) : Prop where
  at_ : ∃ C a fd, G c = some C ∧ Mk X.K C a ∧ MFact X.prog X.w X.K X.mg X.base G k a F fd run
theorem newQ_some {P : Prog} {c : Str} {n : Nat} {kn : List Str} {F : Fun} (h : newQ P c n kn = some F) : P.meth c (Str.ofString "__init__") = some F ∧ n ≤ F.np ∧ F.np ≤ n + F.dfl.length ∧ F.kwo = none := by
  unfold newQ at h
  split at h
  · rename_i F' ha
    split at h
    · rename_i hk
      cases h
      simp only [Bool.and_eq_true, decide_eq_true_eq] at hk
      unfold arity at ha
      split at ha
      · split at ha
        · rename_i h1 h2
          cases ha
          exact ⟨h1, h2.1, h2.2, hk.1⟩
        · cases ha
      · cases ha
    · cases h
  · cases h
section
variable {G : AMap} {W : XK} {X : Cx} {P : Prog} {call : Fun → List D → Sto → O} {k n : Nat} {e : Expr} {es : List Expr} {p pos : Pos} {fes : Slots → Sto → R (List D)} {x : Str} {H : Hp} {w : Wd} {S : Sto}
/-- the new instance stands in the heap -/
theorem made_here {F : Fun} {C y dx : Addr} {ds : List D} {vs : List V} {Q : VK} (con : (F.dfl.all isC) = true) (gC : G x = some C) (np : ds.length + 1 + (F.dfl.drop (ds.length + 1 + F.dfl.length - F.np)).length = F.np) (st : StoR G w S H) (rs : Reps G H w ds vs) (h1 : H y = none) (h2 : H dx = none) (h3 : dx ≠ y)
    (q : GoodR G H w W ((callF call false F (.loc S.length :: ds) (S ++ [.ins x []])).bind fun v S3 => match v with
      | .non => .ok (.loc S.length) S3
      | _ => .bad) Q) :
    spF G F.np (call F) (.ref y :: (vs ++ (F.dfl.drop (ds.length + 1 + F.dfl.length - F.np)).map constV)) (upd (upd H dx (.own y)) y (.ins C dx [])) (fun v H2 => v = .non ∧ Q (.ref y) H2) W := by
  have st1 : StoR G w S (upd H dx (.own y)) := st.upd h2
  have hy : upd H dx (.own y) y = none := by rw [upd_ne (Ne.symm h3)]; exact h1
  have e1 : Ext H w (upd H dx (.own y)) w := Ext.upd st h2
  have e2 : Ext (upd H dx (.own y)) w (upd (upd H dx (.own y)) y (.ins C dx [])) (w.more y) := Ext.more st1 hy
  have st2 : StoR G (w.more y) (S ++ [.ins x []]) (upd (upd H dx (.own y)) y (.ins C dx [])) := st1.more hy ⟨C, dx, [], gC, upd_same, rfl⟩
  have rn : Rep G (upd (upd H dx (.own y)) y (.ins C dx [])) (w.more y) (.loc S.length) (.ref y) := rep_new st1
  have ex := e1.trans e2
  refine ⟨?_, w.more y, _, _, st2, Reps.cons rn (Reps.append (Reps.mono ex _ _ rs) (reps_const (all_drop _ con))), ?_⟩
  · rw [List.length_cons, List.length_append, Reps.length rs, List.length_map]
    omega
  · refine finish_ok (fz := false) (Q := fun v H2 => v = V.non ∧ Q (V.ref y) H2) st2 ?_
    have q2 : GoodR G (upd (upd H dx (.own y)) y (.ins C dx [])) (w.more y) W _ _ := GoodR.mono ex q
    have q3 := GoodR.bind q2
    unfold callF at q3
    rw [List.length_cons] at q3
    refine GoodR.imp q3 fun v H2 ⟨w3, d, S3, e3, st3, rd, q4⟩ => ?_
    cases d with
    | non => exact ⟨rd, GoodV.here q4 st3 (Rep.mono e3 _ _ rn)⟩
    | _ => exact q4.elim
/-- C(e, ..) -/
theorem sd_new (hfn : ∀ F, P.meth x (Str.ofString "__init__") = some F → NewFact X G k x F (call F)) (room : Room (k + 1) X.A) (hx : ∀ σ, PassesAt (L2N.CX X.prog X.w) X σ W) (hg : Gl X x) (gf : ∀ a, G x = some a → X.mg x = some (.ref a)) (hd : (x == Str.ofString "__debug__") = false)
    (hlen : ∀ σ S ds S', fes σ S = .ok ds S' → ds.length = n) (hs : noStar e = true) (hss : (es.all noStar) = true) (ha : PA X (e :: es) (tEVs G W fes)) :
    PE X (.Call (.Name x p) (e :: es) [] pos) (tEV G W fun σ S => match newQ P x (n + 1) [] with
      | none => .bad
      | some F => (fes σ S).bind fun ds S1 => (callF call false F (.loc S1.length :: ds) (S1 ++ [.ins x []])).bind fun v S3 => match v with
        | .non => .ok (.loc S1.length) S3
        | _ => .bad) := by
  cases hq : newQ P x (n + 1) [] with
  | none => exact pe_imp (show PE X (.Call (.Name x p) (e :: es) [] pos) (fun _ _ _ => False) from ⟨fun _ _ _ _ _ _ z => z.elim⟩) fun σ H Q ⟨w, σD, S, sl, st, q⟩ => q
  | some F =>
    obtain ⟨hP, n1, n2, hk⟩ := newQ_some hq
    obtain ⟨C, b, fd, gC, mk, mf⟩ := (hfn F hP).at_
    obtain ⟨ds0, hbd, hv⟩ := mf.pos hk (n + 1 + F.dfl.length - F.np) (by omega)
    refine pe_imp (pe_make mk mf.fok room hg (gf C gC) hbd hv (pass_all hx) ha hd (star_of hs es X.env) (stars_of hss pos X.env)) fun σ H Q ⟨w, σD, S, sl, st, q⟩ => ⟨w, σD, S, sl, st, ?_⟩
    dsimp only at q
    cases e3 : fes σD S with
    | bad => rw [e3] at q; exact q.elim
    | exc y S2 => rw [e3] at q; exact q
    | ok ds S2 =>
      rw [e3] at q
      simp only [R.bind] at q
      have hn := hlen _ _ _ _ e3
      intro w2 vs H2 ex st2 rs y dx h1 h2 h3
      have := made_here (call := call) (F := F) (W := W) (Q := Q) mf.con gC (by rw [hn, List.length_drop]; omega) st2 rs h1 h2 h3 (GoodR.mono ex q)
      rw [hn] at this
      exact this
/-- C() -/
theorem sd_new0 (hfn : ∀ F, P.meth x (Str.ofString "__init__") = some F → NewFact X G k x F (call F)) (room : Room (k + 1) X.A) (hx : ∀ σ, PassesAt (L2N.CX X.prog X.w) X σ W) (hg : Gl X x) (gf : ∀ a, G x = some a → X.mg x = some (.ref a)) (hd : (x == Str.ofString "__debug__") = false) :
    PE X (.Call (.Name x p) [] [] pos) (tEV G W fun σ S => match newQ P x 1 [] with
      | none => .bad
      | some F => (callF call false F [.loc S.length] (S ++ [.ins x []])).bind fun v S3 => match v with
        | .non => .ok (.loc S.length) S3
        | _ => .bad) := by
  cases hq : newQ P x 1 [] with
  | none => exact pe_imp (show PE X (.Call (.Name x p) [] [] pos) (fun _ _ _ => False) from ⟨fun _ _ _ _ _ _ z => z.elim⟩) fun σ H Q ⟨w, σD, S, sl, st, q⟩ => q
  | some F =>
    obtain ⟨hP, n1, n2, hk⟩ := newQ_some hq
    obtain ⟨C, b, fd, gC, mk, mf⟩ := (hfn F hP).at_
    obtain ⟨ds0, hbd, hv⟩ := mf.pos hk (1 + F.dfl.length - F.np) (by omega)
    refine pe_imp (pe_make0 mk mf.fok room hg (gf C gC) hbd hv (pass_all hx) hd) fun σ H Q ⟨w, σD, S, sl, st, q⟩ y dx h1 h2 h3 => ?_
    dsimp only at q
    have := made_here (call := call) (F := F) (W := W) (Q := Q) (ds := []) (vs := []) mf.con gC (by rw [List.length_drop]; simp; omega) st Reps.nil h1 h2 h3 q
    simpa using this
theorem in1_call {A : Around} {a : Addr} {fd : FuncData} {ps : List Str} {sp : Sp} {pins : List (Addr × Obj)} {σ : L2.St} {s : Shared} {Q : VK} {us : List Value} {vs : List V} {ds : List Value} {dvs : List V} (F : FnOk X.prog X.w X.K X.mg X.base (L2N.CX X.prog X.w) k a fd ps sp) (hr : Room (k + 1) X.A) (hb : Binds X.K fd ps ds) (hd : Vals dvs ds) (hx : Passes (L2N.CX X.prog X.w) X W)
    (I : Inv X pins σ H s) (r : Vals vs us) (h : sp (vs ++ dvs) H Q W) : wpAny (model X.prog X.w) X.A.in1 (PySem.call (.ref a) us) (EP X pins σ Q) X.xe s := by
  have r2 : Vals (vs ++ dvs) (us ++ ds) := r.append hd
  have hl : (us ++ ds).length = ps.length := by rw [← r2.length]; exact F.len _ _ _ _ h
  refine wpAny_call (codeAny_mono (F.run X.A.in1 X.stack s H ⟨us, []⟩ (us ++ ds) (vs ++ dvs) Q W hr.in1 I.env0.in1 (hb s us I.kIn hl) r2 h) fun r s' hq => ?_)
  cases r with
  | error e => exact hx pins σ H s e s' I hq
  | ok fl =>
    cases fl with
    | ret u => exact I.after hq
    | next => exact hq.elim
    | brk => exact hq.elim
    | cont => exact hq.elim
/-- len(o) -/
theorem sd_leni {fo : fE} (hfn : ∀ c F, P.meth c (Str.ofString "__len__") = some F → MthFact X G k c (Str.ofString "__len__") F (call F)) (room : Room (k + 1) X.A) (hx : ∀ σ, PassesAt (L2N.CX X.prog X.w) X σ W) (hg : Gl X x) (hm : X.mg x = none) (hv : bootBuiltins x = some (.builtin "len")) (h1 : x ≠ Str.ofString "__name__") (h2 : (x == Str.ofString "__debug__") = false)
    (hs : noStar e = true) (ho : PE X e (tEV G W fo)) :
    PE X (.Call (.Name x p) [e] [] pos) (tEV G W fun σ S => (fo σ S).bind fun d S1 => match methQ P S1 d (Str.ofString "__len__") 1 [] with
      | some F => (callF call true F [d] S1).bind lenY
      | none => .bad) := by
  refine ⟨fun pins s σ H Q I ⟨w, σD, S, sl, st, q⟩ => ?_⟩
  refine wpAny_Call_Name_kw (ld_blt I hg hm hv ?_ h1 h2)
  refine PyProof.Rows.callWith_builtin1 (thn ((pa_cons ho pa_nil (star_of hs [] X.env)).run pos pins s σ H (fun vs H1 => ∃ v, vs = [v] ∧ ∃ w2 d S2, Ext H w H1 w2 ∧ StoR G w2 S2 H1 ∧ Rep G H1 w2 d v ∧ GoodR G H1 w2 W (match methQ P S2 d (Str.ofString "__len__") 1 [] with
      | some F => (callF call true F [d] S2).bind lenY
      | none => .bad) Q) I ?_) fun us s1 ⟨vs, H1, I1, r1, q1⟩ => ?_) (star_of hs [] X.env) rfl
  · refine ⟨w, σD, S, sl, st, GoodR.imp (GoodR.bind q) fun v H2 h => ⟨v, rfl, h⟩⟩
  · obtain ⟨v, rfl, w1, d, S1, e1, st1, rd, q1⟩ := q1
    obtain ⟨u, rfl, ru⟩ := vals1 r1
    cases hq : methQ P S1 d (Str.ofString "__len__") 1 [] with
    | none => rw [hq] at q1; exact q1.elim
    | some F =>
      rw [hq] at q1
      dsimp only at q1
      obtain ⟨l, c, fs, rfl, hS, hm, hP, n1, n2, hk, _⟩ := methQ_some hq
      obtain ⟨a, C, dx, gs, rfl, hp, g, hH, rf⟩ := ins_at st1 rd hS
      obtain rfl : u = Value.ref a := ru
      obtain ⟨C2, b, fd, g2, cl, mt, mf⟩ := (hfn c F hP).at_
      rw [g] at g2
      cases g2
      obtain ⟨ds0, hbd, hv⟩ := mf.pos hk (1 + F.dfl.length - F.np) (by omega)
      obtain ⟨mA, O, _⟩ := ins_get I1.hok hH
      obtain ⟨od, J, _⟩ := O.look
      refine Calls.call_function_entry kind_len plain_len entry_len (args_len1 _) ?_
      unfold Builtin.«len»
      refine wpAny_bind (m := oneArg "len" _) (wpAny_pure ?_)
      refine wpAny_bind (m := callSpecial? (.ref a) (Str.ofString "__len__")) (PySem.W.special_fn I1.kIn J mt.at_ (beq_iff_eq.mp mt.fn) (thn (in1_call (A := X.A) (us := [.ref a]) (vs := [.ref a]) (Q := fun v H2 => ∃ i : Int, v = V.int i ∧ 0 ≤ i ∧ i < 4611686018427387904 ∧ Q (V.int i) H2) mf.fok room hbd hv (pass_all hx) I1 (.cons rfl .nil) ?_) fun r s2 ⟨v, H2, I2, r2, i, ei, i0, i1, q2⟩ => ?_))
      · unfold callF at q1
        refine ⟨?_, w1, _, S1, st1, Reps.cons rd (reps_const (all_drop _ mf.con)), finish_ok (fz := true) (Q := fun v H2 => ∃ i : Int, v = V.int i ∧ 0 ≤ i ∧ i < 4611686018427387904 ∧ Q (V.int i) H2) st1 (GoodR.imp (GoodR.bind q1) fun v H2 ⟨w3, d, S3, e3, st3, rd, q4⟩ => ?_)⟩
        · rw [List.length_append, List.length_map, List.length_drop]
          simp
          omega
        · unfold lenY at q4
          split at q4
          · rename_i i
            split at q4
            · rename_i hi
              obtain rfl : v = V.int i := rd
              exact ⟨i, rfl, hi.1, hi.2, GoodV.here q4 st3 rfl⟩
            · exact q4.elim
          · exact q4.elim
      · subst ei
        obtain ⟨t, rfl⟩ := r2
        refine wpAny_bind (wpAny_holding (wpAny_pure ?_))
        refine wpAny_bind (wpAny_letGo ?_)
        show wpAny _ _ (if i < 0 then _ else _) _ _ _
        rw [if_neg (by omega)]
        show wpAny _ _ (if i ≥ 2 ^ 63 then _ else _) _ _ _
        rw [if_neg (by omega)]
        exact wpAny_bind (wpAny_mkInt (wpAny_pure ⟨_, rfl, ⟨.int i, H2, I2.tok _, ⟨_, rfl⟩, q2⟩⟩))
end
end Lt
namespace Lt
open PySem L2 PySem.Spec PyProof.Rows
/-! ### the look at the text -/
def okName (x : Str) : Bool := x != Str.ofString "__debug__" && (x != Str.ofString "__classdict__" && x != Str.ofString "__name__")
def visB (sc : PySem.Scope) (x : Str) : Bool := decide (sc.names.lookup x = some .local) || (decide (sc.names.lookup x = some .cell) || decide (sc.names.lookup x = some .free))
def locB (sc : PySem.Scope) (x : Str) : Bool := decide (sc.names.lookup x = some .local) || decide (sc.names.lookup x = some .cell)
def glB (sc : PySem.Scope) (x : Str) : Bool := decide (sc.names.lookup x = some .globalImplicit)
def blts : List Str := [Str.ofString "len", Str.ofString "all", Str.ofString "any", Str.ofString "max", Str.ofString "sum", Str.ofString "tuple", Str.ofString "isinstance", Str.ofString "int", Str.ofString "str", Str.ofString "bool", Str.ofString "list", Str.ofString "dict", Str.ofString "range", Str.ofString "reversed", Str.ofString "sorted", Str.ofString "set", Str.ofString "enumerate"]
def bltN : Blt → Option Str
  | .len => some (Str.ofString "len")
  | .all => some (Str.ofString "all")
  | .any => some (Str.ofString "any")
  | .max => some (Str.ofString "max")
  | .sum => some (Str.ofString "sum")
  | .tuple => some (Str.ofString "tuple")
  | .list => some (Str.ofString "list")
  | .sorted => some (Str.ofString "sorted")
  | _ => none
def bmN : Bmt → Option Str
  | .get => some (Str.ofString "get")
  | .setdefault => some (Str.ofString "setdefault")
  | .pop => some (Str.ofString "pop")
  | .popl => some (Str.ofString "pop")
  | .append => some (Str.ofString "append")
  | .extend => some (Str.ofString "extend")
  | .count => some (Str.ofString "count")
  | .index => some (Str.ofString "index")
  | _ => none
/-- enumerate wants a tuple of names -/
def enOk (it : E) (tg : Expr) : Bool := match it with
  | .enum _ => (match tg with
    | .Tuple _ _ _ => true
    | _ => false)
  | _ => true
def tupE : Es → Bool
  | .cons (.tup _) _ => true
  | _ => false
def isNilE : Es → Bool
  | .nil => true
  | _ => false
/-- a range that is walked -/
def rgB : Bool → Blt → Nat
  | true, .range => 1
  | true, .rrange => 2
  | _, _ => 0
theorem rgB_no (b : Blt) : rgB false b = 0 := by cases b <;> rfl
theorem rgB_1 {i : Bool} {b : Blt} (h : rgB i b = 1) : b = .range := by cases i <;> cases b <;> first | rfl | cases h
theorem rgB_2 {i : Bool} {b : Blt} (h : rgB i b = 2) : b = .rrange := by cases i <;> cases b <;> first | rfl | cases h
def matC : Const → D → Bool
  | .none, .non => true
  | .bool b, .bl c => b == c
  | .int i, .int j => i == j
  | .str x, .str y => x == y
  | _, _ => false
def okT : Expr → Bool
  | .IfExp _ _ _ _ => false
  | .NamedExpr _ _ _ => false
  | _ => true
def isB : Expr → Bool
  | .BoolOp _ _ _ => true
  | _ => false
def cOp : COp → CmpOp → Bool
  | .eq, .Eq => true
  | .ne, .NotEq => true
  | .lt, .Lt => true
  | .le, .LtE => true
  | .gt, .Gt => true
  | .ge, .GtE => true
  | .isin, .In => true
  | .nin, .NotIn => true
  | .is, .Is => true
  | .isnt, .IsNot => true
  | _, _ => false
def bOp : BOp → Operator → Bool
  | .add, .Add => true
  | .sub, .Sub => true
  | .mul, .Mult => true
  | .fdiv, .FloorDiv => true
  | .mod, .Mod => true
  | .pow, .Pow => true
  | _, _ => false
theorem cOp_eq {a : COp} {b : CmpOp} (h : cOp a b = true) : b = opC a := by cases a <;> cases b <;> first | rfl | exact absurd h (by simp [cOp])
theorem bOp_eq {a : BOp} {b : Operator} (h : bOp a b = true) : b = opOf a := by cases a <;> cases b <;> first | rfl | exact absurd h (by simp [bOp])
/-- the names a walk binds -/
def matTg (N : List Str) (sc : PySem.Scope) (ts : List Nat) : Expr → Bool
  | .Name x p => namesAt N sc (fun _ => true) [.Name x p] ts
  | .Tuple es _ _ => ts.length != 1 && namesAt N sc (fun _ => true) es ts
  | _ => false
def nmOf : List Expr → List Str
  | [] => []
  | .Name x _ :: r => x :: nmOf r
  | _ :: r => nmOf r
def tgNm : Expr → List Str
  | .Name x _ => [x]
  | .Tuple es _ _ => nmOf es
  | _ => []
/-- a comprehension's own names -/
def ownOf (tg : Expr) (ts : List Nat) : List (Str × Nat) := (tgNm tg).zip ts
section
variable (N : List Str)
mutual
def matX (i : Bool) (sc : PySem.Scope) (e : Expr) : E → Bool
  | .var i => match e with
    | .Name x _ => decide (N[i]? = some x) && (visB sc x && okName x)
    | _ => false
  | .cst d => match e with
    | .Constant c _ _ => matC c d
    | _ => false
  | .glb y => match e with
    | .Name x _ => decide (x = y) && (glB sc x && okName x)
    | _ => false
  | .tup cs => match e with
    | .Tuple es _ _ => decide (cs.len ≤ 4096) && matEs sc es cs
    | _ => false
  | .lst _ cs => match e with
    | .List es _ => decide (cs.len ≤ 4096) && matEs sc es cs
    | _ => false
  | .bin _ op a b => match e with
    | .BinOp x o y _ => bOp op o && (matX false sc x a && matX false sc y b)
    | _ => false
  | .neg a => match e with
    | .UnaryOp .USub x _ => matX false sc x a
    | _ => false
  | .not a => match e with
    | .UnaryOp .Not x _ => okT x && matX false sc x a
    | _ => false
  | .and a b => match e with
    | .BoolOp .And (x :: y :: rest) pos => okT x && (matX false sc x a && (match rest with
      | [] => okT y && matX false sc y b
      | z :: rest => matX false sc (.BoolOp .And (y :: z :: rest) pos) b))
    | _ => false
  | .or a b => match e with
    | .BoolOp .Or (x :: y :: rest) pos => okT x && (matX false sc x a && (match rest with
      | [] => okT y && matX false sc y b
      | z :: rest => matX false sc (.BoolOp .Or (y :: z :: rest) pos) b))
    | _ => false
  | .ite c a b => match e with
    | .IfExp x y z _ => okT x && (matX false sc x c && (matX false sc y a && matX false sc z b))
    | _ => false
  | .cmp op a b => match e with
    | .Compare x [o] [y] _ => (cOp op o && noSet y) && (matX false sc x a && matX false sc y b)
    | _ => false
  | .chn o1 o2 a b c => match e with
    | .Compare x [p1, p2] [y, z] _ => ((cOp o1 p1 && cOp o2 p2) && (noSet y && noSet z)) && (matX false sc x a && (matX false sc y b && matX false sc z c))
    | _ => false
  | .idx a b => match e with
    | .Subscript x y _ => noSlice y && (matX false sc x a && matX false sc y b)
    | _ => false
  | .slc a lo hi => match e with
    | .Subscript x (.Slice l h none _) _ => matX false sc x a && (matO sc l lo && matO sc h hi)
    | _ => false
  | .rev a => match e with
    | .Subscript x (.Slice none none (some (.UnaryOp .USub (.Constant (.int j) _ _) _)) _) _ => decide (j = 1) && matX false sc x a
    | _ => false
  | .call _ f cs => match e with
    | .Call (.Name x _) (y :: es) [] _ => decide (x = f) && (glB sc x && (okName x && matEs sc (y :: es) cs))
    | _ => false
  | .calv _ f cs => match e with
    | .Call (.Subscript a b p) (y :: es) [] _ => matX false sc (.Subscript a b p) f && matEs sc (y :: es) cs
    | _ => false
  | .fld a f => match e with
    | .Attribute x n _ => decide (n = f) && (noSup x && matX false sc x a)
    | _ => false
  | .meth _ o m es kn ks => match e with
    | .Call (.Attribute x n apos) args kws cpos => ((decide (n = m) && noSup x) && ((apos.endLine == cpos.line) && decide (args.length < 20))) && (matX false sc x o && (matEs sc args es && (match kws with
      | [] => kn.isEmpty && isNilE ks
      | [⟨some nm, v, _⟩] => (decide (kn = [nm]) && !args.isEmpty) && matEs sc [v] ks
      | _ => false)))
    | _ => false
  | .new c es kn ks => match e with
    | .Call (.Name x _) args [] _ => (decide (x = c) && (glB sc x && okName x)) && ((kn.isEmpty && isNilE ks) && matEs sc args es)
    | _ => false
  | .leni a => match e with
    | .Call (.Name x _) [y] [] _ => decide (x = Str.ofString "len") && (glB sc x && (noStar y && matX false sc y a))
    | _ => false
  | .blt _ b a => match rgB i b with
    | 1 => (match e with
      | .Call (.Name x _) [y] [] _ => decide (x = Str.ofString "range") && (glB sc x && (noStar y && matX false sc y a))
      | _ => false)
    | 2 => (match e with
      | .Call (.Name x _) [.Call (.Name z _) [y] [] _] [] _ => (decide (x = Str.ofString "reversed") && decide (z = Str.ofString "range")) && ((glB sc x && glB sc z) && (noStar y && matX false sc y a))
      | _ => false)
    | _ => (match e with
      | .Call (.Name x _) [y] [] _ => decide (bltN b = some x) && (glB sc x && (okName x && (noStar y && matX false sc y a)))
      | _ => false)
  | .isi a t => match e with
    | .Call (.Name x _) [y, .Name z _] [] _ => (decide (x = Str.ofString "isinstance") && decide (z = Str.ofString (tyN t))) && ((glB sc x && glB sc z) && (noStar y && matX false sc y a))
    | _ => false
  | .dct _ cs => match e with
    | .Dict keys values _ => (keys.isEmpty && (values.isEmpty && isNilE cs)) || ((decide (keys.length ≤ 15) && tupE cs) && matP sc keys values cs)
    | _ => false
  | .bm b o cs => match e with
    | .Call (.Attribute x n apos) (y :: es) [] cpos => (decide (bmN b = some n) && (noSup x && decide ((y :: es).length < 30))) && ((apos.endLine == cpos.line) && (matX false sc x o && matEs sc (y :: es) cs))
    | _ => false
  | .vals _ a => match e with
    | .Call (.Name x _) [.Call (.Attribute o n apos) [] [] cpos] [] _ => (decide (x = Str.ofString "list") && decide (n = Str.ofString "values")) && ((glB sc x && noSup o) && ((apos.endLine == cpos.line) && matX false sc o a))
    | _ => false
  | .lrng _ a => match e with
    | .Call (.Name x _) [.Call (.Name z _) [y] [] _] [] _ => (decide (x = Str.ofString "list") && decide (z = Str.ofString "range")) && ((glB sc x && glB sc z) && (noStar y && matX false sc y a))
    | _ => false
  | .enum a => match e with
    | .Call (.Name x _) [y] [] _ => (i && decide (x = Str.ofString "enumerate")) && (glB sc x && (noStar y && matX false sc y a))
    | _ => false
  | .lc _ ts it cond elt => match e with
    | .ListComp y [⟨tg, iter, ifs, asy⟩] scope _ => enOk it tg && (decide (asy = 0) && (noSet iter && matTg N scope ts tg)) && ((decide ((ownOf tg ts).map (fun x => x.2) = ts) && blkC N sc scope (ownOf tg ts)) && (matX true sc iter it && (matX false scope y elt && matO1 scope ifs cond)))
    | _ => false
/-- a display's pairs -/
def matP (sc : PySem.Scope) (keys : List (Option Expr)) (values : List Expr) : Es → Bool
  | .nil => keys.isEmpty && values.isEmpty
  | .cons a .nil => false
  | .cons a (.cons b r) => match keys, values with
    | some k :: ks, v :: vs => matX false sc k a && (matX false sc v b && matP sc ks vs r)
    | _, _ => false
def matEs (sc : PySem.Scope) (es : List Expr) : Es → Bool
  | .nil => match es with
    | [] => true
    | _ => false
  | .cons c cs => match es with
    | e :: es => noStar e && (matX false sc e c && matEs sc es cs)
    | _ => false
/-- a slice's bound -/
def matO (sc : PySem.Scope) (o : Option Expr) : Es → Bool
  | .nil => match o with
    | none => true
    | _ => false
  | .cons c cs => match o with
    | some e => matX false sc e c && (match cs with
      | .nil => true
      | _ => false)
    | none => false
/-- a comprehension's test -/
def matO1 (sc : PySem.Scope) (o : List Expr) : Es → Bool
  | .nil => match o with
    | [] => true
    | _ => false
  | .cons c cs => match o with
    | [e] => (okT e && matX false sc e c) && (match cs with
      | .nil => true
      | _ => false)
    | _ => false
end
abbrev matE := matX N false
/-- what is walked -/
abbrev matI := matX N true
end
/-! ### what is known where a text runs -/
def ScR (sc sc' : PySem.Scope) : Prop := ∀ x, sc'.names.lookup x = sc.names.lookup x ∨ (sc.names.lookup x = some .free ∧ sc'.names.lookup x = some .cell)
structure Ctx (X : Cx) (G : AMap) (P : Prog) (call : Fun → List D → Sto → O) (k : Nat) (N : List Str) (sc : PySem.Scope) (W : XK) : Prop where
  n : X.N = N
  scr : ScR sc X.env.scope
  fnc : ∀ x, sc.names.lookup x = some .cell → X.fn x = true
  nd : N.Nodup
  calm : X.calm = true
  room : Room (k + 1) X.A
  pass : ∀ σ, PassesAt (L2N.CX X.prog X.w) X σ W
  bl : ∀ x, blts.contains x = true → X.mg x = none
  gf : ∀ x a, G x = some a → X.mg x = some (.ref a)
  fn : ∀ x F, P.fn x = some F → ∃ a fd, G x = some a ∧ PySem.W.keepIn X.K (.ref a) = true ∧ FnFact X.prog X.w X.K X.mg X.base G k a F fd (call F)
  gl : ∀ x d, P.glb x = some d → ∃ v u, X.mg x = some u ∧ RelV v u ∧ ∀ H w S, StoR G w S H → Rep G H w d v
  cls : ∀ c f, (P.flds c).contains f = true → ClsFact X G P c
  mth : ∀ c m F, P.meth c m = some F → MthFact X G k c m F (call F)
  mkr : ∀ c F, P.meth c (Str.ofString "__init__") = some F → NewFact X G k c F (call F)
  wo : G.wo = X.w
def NoE : XK := fun _ _ _ => False
section
variable {G : AMap} {H H' H1 H2 : Hp} {w w1 w2 : Wd} {W : XK} {S S1 S2 : Sto} {X : Cx} {pos : Pos} {sc sc' : PySem.Scope} {N : List Str}
theorem ScR.vis (h : ScR sc sc') {x : Str} (v : visB sc x = true) : Vis sc' x := by
  simp only [visB, Bool.or_eq_true, decide_eq_true_eq] at v
  rcases h x with e | ⟨e1, e2⟩
  · unfold Vis
    rw [e]; exact v
  · exact .inr (.inl e2)
theorem ScR.loc (h : ScR sc sc') {x : Str} (v : locB sc x = true) : L2.Loc sc' x := by
  simp only [locB, Bool.or_eq_true, decide_eq_true_eq] at v
  rcases h x with e | ⟨e1, e2⟩
  · unfold L2.Loc
    rw [e]; exact v
  · exact .inr e2
theorem ScR.gl (h : ScR sc sc') {x : Str} (v : glB sc x = true) : sc'.names.lookup x = some .globalImplicit := by
  simp only [glB, decide_eq_true_eq] at v
  rcases h x with e | ⟨e1, e2⟩
  · rw [e]; exact v
  · rw [v] at e1; cases e1
theorem names_mono {fn fn' : Str → Bool} (h : ScR sc sc') (hf : ∀ x, sc.names.lookup x = some .cell → fn' x = true) : ∀ {es : List Expr} {is : List Nat}, namesAt N sc fn es is = true → namesAt N sc' fn' es is = true := by
  intro es
  induction es with
  | nil => intro is h; cases is <;> first | rfl | cases h
  | cons e es ih =>
    intro is hh
    cases e with
    | Name x p =>
      cases is with
      | nil => cases hh
      | cons i is =>
        simp only [namesAt, Bool.and_eq_true, Bool.or_eq_true, decide_eq_true_eq] at hh ⊢
        obtain ⟨⟨h1, h2⟩, h3⟩ := hh
        refine ⟨⟨h1, ?_⟩, ih h3⟩
        rcases h x with e | ⟨e1, e2⟩
        · rw [e]
          exact h2.imp id fun z => ⟨z.1, hf x z.1⟩
        · rcases h2 with h2 | ⟨h2, _⟩ <;> rw [h2] at e1 <;> cases e1
    | _ => cases hh
theorem lookup_map {f : Str × NameKind → Str × NameKind} (hf : ∀ p, (f p).1 = p.1) : ∀ (l : List (Str × NameKind)) (x : Str), (l.map f).lookup x = (l.lookup x).map fun k => (f (x, k)).2
  | [], x => rfl
  | (y, k) :: l, x => by
    have e : f (y, k) = (y, (f (y, k)).2) := Prod.ext (hf _) rfl
    rw [List.map_cons, e, List.lookup_cons, List.lookup_cons]
    by_cases h : x = y
    · subst h
      simp
    · have : (x == y) = false := by simpa using h
      rw [this]
      exact lookup_map hf l x
theorem ScR.relabel (scope : PySem.Scope) (env : Env) : ScR scope (PySem.relabel scope env) := by
  intro x
  show ((scope.names.map _).lookup x) = _ ∨ _
  rw [lookup_map (fun p => by
    obtain ⟨n, k⟩ := p
    dsimp only
    split <;> rfl)]
  cases h : scope.names.lookup x with
  | none => exact .inl rfl
  | some k =>
    simp only [Option.map_some]
    split
    · rename_i hc
      simp only [Bool.and_eq_true, beq_iff_eq] at hc
      right
      refine ⟨by rw [hc.1.1], ?_⟩
      show List.lookup x (scope.names.map _) = _
      rw [lookup_map (fun p => by
        obtain ⟨n, k⟩ := p
        dsimp only
        split <;> rfl), h]
      simp only [Option.map_some]
      rw [if_pos (by simp [hc.1.1, hc.1.2, hc.2])]
    · exact .inl rfl
theorem BlkOk.mono' {scope : PySem.Scope} {own : List (Str × Nat)} (h : ScR sc sc') (b : BlkOk N sc scope own) : BlkOk N sc' scope own where
  kind := b.kind
  uniq := b.uniq
  ix := b.ix
  free := fun y hy hf => by
    rcases h y.1 with e | ⟨e1, e2⟩
    · rw [e]; exact b.free y hy hf
    · exact .inl e2
  own := b.own
/-- where a comprehension's parts run -/
theorem Ctx.blk {P : Prog} {call : Fun → List D → Sto → O} {k : Nat} (h : Ctx X G P call k N sc W) (scope : PySem.Scope) (s : Shared) (H : Hp) (C : Addr) (cl : List (Str × Addr)) (fp : List Addr) : Ctx (X.blk s H scope (compEnvC scope cl C X.env) fp) G P call k N scope NoE where
  n := h.n
  scr := ScR.relabel scope X.env
  fnc := fun x hx => by
    show (List.lookup x scope.names == some NameKind.cell) = true
    rw [hx]; rfl
  nd := h.nd
  calm := h.calm
  room := h.room
  pass := fun σ pins H s e s' I ⟨a, B, H', cls, d, h1, h2, h3, h4, h5, h6, h7, h8⟩ => h8.elim
  bl := h.bl
  gf := h.gf
  fn := h.fn
  gl := h.gl
  cls := fun c f hf => ⟨(h.cls c f hf).at_⟩
  mth := fun c m F hF => ⟨(h.mth c m F hF).at_⟩
  wo := h.wo
  mkr := fun c F hF => ⟨(h.mkr c F hF).at_⟩
end
end Lt
namespace Lt
open PySem L2 PySem.Spec PyProof.Rows
theorem len_evs {P : Prog} {call : Fun → List D → Sto → O} {σ : Slots} : ∀ {es : Es} {S : Sto} {ds : List D} {S' : Sto}, evs P call σ es S = .ok ds S' → ds.length = es.len
  | .nil, S, ds, S', h => by
    rw [evs] at h
    cases h; rfl
  | .cons e r, S, ds, S', h => by
    rw [evs] at h
    cases h1 : ev P call σ e S with
    | bad => rw [h1] at h; cases h
    | exc x S1 => rw [h1] at h; cases h
    | ok d S1 =>
      rw [h1] at h
      simp only [R.bind] at h
      cases h2 : evs P call σ r S1 with
      | bad => rw [h2] at h; cases h
      | exc x S1 => rw [h2] at h; cases h
      | ok ds2 S2 =>
        rw [h2] at h
        cases h
        rw [List.length_cons, len_evs h2]
        rfl
section
variable {G : AMap} {P : Prog} {call : Fun → List D → Sto → O} {k : Nat} {N : List Str}
theorem pe_eq {X : Cx} {W : XK} {e : Expr} {f g : fE} (h : PE X e (tEV G W f)) (q : ∀ σ S, g σ S = f σ S) : PE X e (tEV G W g) := by
  have : g = f := by funext σ S; exact q σ S
  rw [this]; exact h
theorem pt_eq {X : Cx} {W : XK} {e : Expr} {f g : fE} (h : PT X e (tEVT G W f)) (q : ∀ σ S, g σ S = f σ S) : PT X e (tEVT G W g) := by
  have : g = f := by funext σ S; exact q σ S
  rw [this]; exact h
theorem pw_eq {X : Cx} {W : XK} {e : Expr} {f g : fE} (h : PW X e (tEVT G W f)) (q : ∀ σ S, g σ S = f σ S) : PW X e (tEVT G W g) := by
  have : g = f := by funext σ S; exact q σ S
  rw [this]; exact h
theorem pa_eq {X : Cx} {W : XK} {es : List Expr} {f g : Slots → Sto → R (List D)} (h : PA X es (tEVs G W f)) (q : ∀ σ S, g σ S = f σ S) : PA X es (tEVs G W g) := by
  have : g = f := by funext σ S; exact q σ S
  rw [this]; exact h
theorem po_eq {X : Cx} {W : XK} {o : Option Expr} {f g : Slots → Sto → R (List D)} (h : PO X o (tEVO G W f)) (q : ∀ σ S, g σ S = f σ S) : PO X o (tEVO G W g) := by
  have : g = f := by funext σ S; exact q σ S
  rw [this]; exact h
theorem pts_eq {X : Cx} {W : XK} {o : List Expr} {f g : Slots → Sto → R Bool} (h : PTs X o (tTS G W f)) (q : ∀ σ S, g σ S = f σ S) : PTs X o (tTS G W g) := by
  have : g = f := by funext σ S; exact q σ S
  rw [this]; exact h
theorem pi_eq {X : Cx} {W : XK} {tg it : Expr} {pu : Bool} {f g : fE} (h : PI X tg it (iEV G W pu f)) (q : ∀ σ S, g σ S = f σ S) : PI X tg it (iEV G W pu g) := by
  have : g = f := by funext σ S; exact q σ S
  rw [this]; exact h
/-- what an expression does -/
structure Does (X : Cx) (G : AMap) (W : XK) (e : Expr) (f : fE) : Prop where
  pe : PE X e (tEV G W f)
  pt : okT e = true → PT X e (tEVT G W f)
  pw : isB e = true → PW X e (tEVT G W f)
theorem Does.plain {X : Cx} {W : XK} {e : Expr} {f : fE} (h : PE X e (tEV G W f)) (hp : plainT e = true) : Does X G W e f := ⟨h, fun _ => pt_of hp h, fun z => by
  cases e with
  | BoolOp => simp [plainT] at hp
  | _ => cases z⟩
theorem Does.eq {X : Cx} {W : XK} {e : Expr} {f g : fE} (h : Does X G W e f) (q : ∀ σ S, g σ S = f σ S) : Does X G W e g := by
  have : g = f := by funext σ S; exact q σ S
  rw [this]; exact h
theorem okN {x : Str} (h : okName x = true) : (x == Str.ofString "__debug__") = false ∧ (x == Str.ofString "__classdict__") = false ∧ x ≠ Str.ofString "__name__" := by
  simp only [okName, Bool.and_eq_true, bne_iff_ne, ne_eq] at h
  exact ⟨by simpa using h.1, by simpa using h.2.1, h.2.2⟩
section
variable {X : Cx} {W : XK} {sc : PySem.Scope}
theorem Ctx.hu (h : Ctx X G P call k N sc W) : X.A.units + 20 < cLine := by have := h.room.un; omega
theorem Ctx.Gl (h : Ctx X G P call k N sc W) {x : Str} (g : glB sc x = true) : Gl X x := h.scr.gl g
theorem Ctx.sub (h : Ctx X G P call k N sc W) {x : Str} (g : x ∈ blts) : X.mg x = none := h.bl x (by simpa using g)
/-- a built-in function of one argument -/
theorem blt_does (h : Ctx X G P call k N sc W) {m : Bool} {b : Blt} {x : Str} {y : Expr} {f : fE} {p pos : Pos} (hb : bltN b = some x) (hg : glB sc x = true) (hs : noStar y = true) (ha : PE X y (tEV G W f)) :
    PE X (.Call (.Name x p) [y] [] pos) (tEV G W fun σ S => (f σ S).bind fun d S1 => builtin m S1 b d) := by
  cases b with
  | len => cases hb; exact sd_blt1 (h := fun S d => builtin m S .len d) (len_ok m) (fun S d => ne_blt m S .len d) (h.Gl hg) (h.sub (by simp [blts])) (by decide +kernel) (by decide +kernel) (by decide +kernel) hs ha
  | all => cases hb; exact sd_blt1 (h := fun S d => builtin m S .all d) (all_ok h.calm m) (fun S d => ne_blt m S .all d) (h.Gl hg) (h.sub (by simp [blts])) (by decide +kernel) (by decide +kernel) (by decide +kernel) hs ha
  | any => cases hb; exact sd_blt1 (h := fun S d => builtin m S .any d) (any_ok h.calm m) (fun S d => ne_blt m S .any d) (h.Gl hg) (h.sub (by simp [blts])) (by decide +kernel) (by decide +kernel) (by decide +kernel) hs ha
  | max => cases hb; exact sd_blt1 (h := fun S d => builtin m S .max d) (max_ok h.calm m) (fun S d => ne_blt m S .max d) (h.Gl hg) (h.sub (by simp [blts])) (by decide +kernel) (by decide +kernel) (by decide +kernel) hs ha
  | sum => cases hb; exact sd_blt1 (h := fun S d => builtin m S .sum d) (sum_ok h.calm m) (fun S d => ne_blt m S .sum d) (h.Gl hg) (h.sub (by simp [blts])) (by decide +kernel) (by decide +kernel) (by decide +kernel) hs ha
  | tuple => cases hb; exact sd_ty1 (h := fun S d => builtin m S .tuple d) (tuple_ok m) (fun S d => ne_blt m S .tuple d) (h.Gl hg) (h.sub (by simp [blts])) (by decide +kernel) (by decide +kernel) (by decide +kernel) hs ha
  | sorted => cases hb; exact sd_blt1 (h := fun S d => builtin m S .sorted d) (sorted_ok h.calm h.hu m) (fun S d => ne_blt m S .sorted d) (h.Gl hg) (h.sub (by simp [blts])) (by decide +kernel) (by decide +kernel) (by decide +kernel) hs ha
  | list => cases hb; exact sd_ty1 (h := fun S d => builtin m S .list d) (list_ok h.calm m) (fun S d => ne_blt m S .list d) (h.Gl hg) (h.sub (by simp [blts])) (by decide +kernel) (by decide +kernel) (by decide +kernel) hs ha
  | _ => cases hb
theorem set_iter {e : Expr} (h : noSet e = true) (env : Env) (x : Value) : foldedSetIterable e env x = Pure.pure x := by
  cases e <;> first | rfl | exact absurd h (by simp [noSet])
theorem tg_does (hc : X.calm = true) (hN : X.N.Nodup) {tg : Expr} {ts : List Nat} (sc2 : PySem.Scope) (hsc : ScR sc2 X.env.scope) (hf : ∀ x, sc2.names.lookup x = some .cell → X.fn x = true) (h : matTg X.N sc2 ts tg = true) : PG X tg (gEV G ts) := by
  cases tg with
  | Name x p =>
    have h2 : namesAt X.N X.env.scope X.fn [.Name x p] ts = true := names_mono hsc hf h
    cases ts with
    | nil => cases h2
    | cons i is =>
      cases is with
      | cons j js => simp [namesAt] at h2
      | nil =>
        simp only [namesAt, Bool.and_eq_true, Bool.or_eq_true, decide_eq_true_eq] at h2
        exact sg_name hN h2.1.1 (h2.1.2.imp id fun z => z.1) (h2.1.2.symm.imp (fun z => z.2) id)
  | Tuple es j p =>
    simp only [matTg, Bool.and_eq_true, bne_iff_ne, ne_eq] at h
    exact sg_names hc hN (names_mono hsc hf h.2) h.1
  | _ => cases h
end
theorem stars_es {sc : PySem.Scope} : ∀ {cs : Es} {es : List Expr}, matEs N sc es cs = true → (es.all noStar) = true
  | .nil, es, m => by
    unfold matEs at m
    split at m
    · rfl
    · cases m
  | .cons c cs, es, m => by
    unfold matEs at m
    split at m
    · simp only [Bool.and_eq_true] at m
      rw [List.all_cons, m.1, stars_es m.2.2]; rfl
    · cases m
/-- a name, walked -/
theorem var_head {X : Cx} {W : XK} {sc : PySem.Scope} (h : Ctx X G P call k N sc W) {tg : Expr} {i : Nat} {x : Str} {p : Pos} (hN : N[i]? = some x) (hv : visB sc x = true) (ho : okName x = true) (hd : PE X (.Name x p) (tEV G W fun σ S => ev P call σ (.var i) S)) : Head X G W tg (.Name x p) true true (fun σ S => ev P call σ (.var i) S) where
  gen := si_of true hd
  pure := fun _ σ S d S' e => by
    rw [ev] at e
    split at e
    · rename_i d' hd'
      cases e
      exact ⟨rfl, fun l kvs _ _ => by rw [ev, hd']⟩
    · cases e
  var := fun _ => ⟨i, (fun σ S d S' e => by
    rw [ev] at e
    split at e
    · rename_i d' hd'
      cases e
      exact ⟨hd', rfl⟩
    · cases e), si_var (by rw [h.n]; exact hN) (h.scr.vis hv) (okN ho).1 (okN ho).2.1⟩
theorem gen_head {X : Cx} {W : XK} {tg it : Expr} {f : fE} (h : PI X tg it (iEV G W false f)) : Head X G W tg it false false f := ⟨h, (fun z => by cases z), (fun z => by cases z)⟩
theorem bm_does {X : Cx} {W : XK} {sc : PySem.Scope} (h : Ctx X G P call k N sc W) {b : Bmt} {n : Str} {o e : Expr} {es : List Expr} {apos cpos : Pos} {f : fE} {fes : Slots → Sto → R (List D)} (hb : bmN b = some n) (ho : PE X o (tEV G W f)) (ha : PA X (e :: es) (tEVs G W fes))
    (hs : noSup o = true) (hst : ((e :: es).all noStar) = true) (hl : (e :: es).length < 30) (hline : (apos.endLine == cpos.line) = true) :
    PE X (.Call (.Attribute o n apos) (e :: es) [] cpos) (tEV G W fun σ S => (f σ S).bind fun x S1 => if recv S1 b x then (fes σ S1).bind fun ds S2 => bmeth S2 b x ds else .bad) := by
  have tl : ∀ (w : Wd) (S : Sto) (H : Hp) (a : D) (x : V), StoR G w S H → Rep G H w a x → (lstOf S a).isSome = true → TyW X "list" x H := fun w S H a x st ra hr => by
    obtain ⟨xs, hx⟩ := Option.isSome_iff_exists.mp hr
    obtain ⟨c, us, rfl, rd, _⟩ := lst_at st ra hx
    exact tyw_lst rd
  have td : ∀ (w : Wd) (S : Sto) (H : Hp) (a : D) (x : V), StoR G w S H → Rep G H w a x → (dctOf S a).isSome = true → TyW X "dict" x H := fun w S H a x st ra hr => by
    obtain ⟨xs, hx⟩ := Option.isSome_iff_exists.mp hr
    obtain ⟨c, rfl, d⟩ := dct_at st ra hx
    exact tyw_dct (isD_of d)
  cases b with
  | get => cases hb; exact sd_bm PySem.F.plainAttrs_dict PySem.F.slot_dict_get PySem.F.type_dict_get (get_ok h.hu) td ho ha hs hst hl hline
  | setdefault => cases hb; exact sd_bm PySem.F.plainAttrs_dict PySem.F.slot_dict_setdefault PySem.F.type_dict_setdefault (setd_ok h.hu h.wo) td ho ha hs hst hl hline
  | pop => cases hb; exact sd_bm PySem.F.plainAttrs_dict PySem.F.slot_dict_pop PySem.F.type_dict_pop (pop_ok h.hu) td ho ha hs hst hl hline
  | popl => cases hb; exact sd_bm PySem.F.plainAttrs_list PySem.F.slot_list_pop PySem.F.type_list_pop popl_ok tl ho ha hs hst hl hline
  | append => cases hb; exact sd_bm PySem.F.plainAttrs_list PySem.F.slot_list_append PySem.F.type_list_append append_ok tl ho ha hs hst hl hline
  | extend => cases hb; exact sd_bm PySem.F.plainAttrs_list PySem.F.slot_list_extend PySem.F.type_list_extend extend_ok tl ho ha hs hst hl hline
  | count => cases hb; exact sd_bm PySem.F.plainAttrs_list PySem.F.slot_list_count PySem.F.type_list_count (lcount_ok h.hu) tl ho ha hs hst hl hline
  | index => cases hb; exact sd_bm PySem.F.plainAttrs_list PySem.F.slot_list_index PySem.F.type_list_index (lindex_ok h.hu) tl ho ha hs hst hl hline
  | _ => cases hb
mutual
theorem ev_ok : ∀ (c : E) {X : Cx} {W : XK} {sc : PySem.Scope} {e : Expr} (h : Ctx X G P call k N sc W) (m : matE N sc e c = true), Does X G W e (fun σ S => ev P call σ c S)
  | .var i, X, W, sc, e, h, m => by
    unfold matX at m
    split at m
    · rename_i x p
      simp only [Bool.and_eq_true, decide_eq_true_eq] at m
      obtain ⟨h1, h2, h3⟩ := m
      exact .plain (pe_eq (sd_var (by rw [h.n]; exact h1) (h.scr.vis h2) (okN h3).1 (okN h3).2.1) fun σ S => (by rw [ev] <;> rfl)) rfl
    · cases m
  | .cst d, X, W, sc, e, h, m => by
    unfold matX at m
    split at m
    · rename_i c j p
      unfold matC at m
      split at m
      · exact .plain (pe_eq (sd_val (d := .non) pe_non fun _ _ _ _ => rfl) fun σ S => (by rw [ev] <;> rfl)) rfl
      · rename_i b c
        have m : b = c := by simpa using m
        subst m
        exact .plain (pe_eq (sd_val (d := .bl b) pe_bl fun _ _ _ _ => rfl) fun σ S => (by rw [ev] <;> rfl)) rfl
      · rename_i b c
        have m : b = c := by simpa using m
        subst m
        exact .plain (pe_eq (sd_val (d := .int b) pe_int fun _ _ _ _ => rfl) fun σ S => (by rw [ev] <;> rfl)) rfl
      · rename_i b c
        have m : b = c := by simpa using m
        subst m
        exact .plain (pe_eq (sd_val (d := .str b) pe_str fun _ _ _ _ => rfl) fun σ S => (by rw [ev] <;> rfl)) rfl
      · cases m
    · cases m
  | .glb y, X, W, sc, e, h, m => by
    unfold matX at m
    split at m
    · rename_i x p
      simp only [Bool.and_eq_true, decide_eq_true_eq] at m
      obtain ⟨rfl, h2, h3⟩ := m
      cases hd : P.glb x with
      | none =>
        have : PE X (.Name x p) (fun _ _ _ => False) := ⟨fun _ _ _ _ _ _ z => z.elim⟩
        refine .plain (pe_imp this fun σ H Q ⟨w, σD, S, sl, st, q⟩ => ?_) rfl
        simp only [ev, hd] at q
        exact q
      | some d =>
        obtain ⟨v, u, hm, rv, hr⟩ := h.gl x d hd
        exact .plain (pe_eq (sd_val (pe_glob (h.Gl h2) hm rv (okN h3).1) hr) fun σ S => by rw [ev, hd]) rfl
    · cases m
  | .tup cs, X, W, sc, e, h, m => by
    unfold matX at m
    split at m
    · rename_i es j p
      simp only [Bool.and_eq_true, decide_eq_true_eq] at m
      exact .plain (pe_eq (sd_tup (fun σ S ds S' q => by rw [len_evs q]; exact m.1) (evs_ok cs h m.2)) fun σ S => (by rw [ev] <;> rfl)) rfl
    · cases m
  | .lst mm cs, X, W, sc, e, h, m => by
    unfold matX at m
    split at m
    · rename_i es p
      simp only [Bool.and_eq_true, decide_eq_true_eq] at m
      exact .plain (pe_eq (sd_lst (fun σ S ds S' q => by rw [len_evs q]; exact m.1) (evs_ok cs h m.2)) fun σ S => (by rw [ev] <;> rfl)) rfl
    · cases m
  | .bin mm op a b, X, W, sc, e, h, m => by
    unfold matX at m
    split at m
    · rename_i x o y p
      simp only [Bool.and_eq_true] at m
      obtain ⟨h1, h2, h3⟩ := m
      have := bOp_eq h1
      subst this
      exact .plain (pe_eq (sd_op (h := fun S x y => binop mm S op x y) (binop_ok mm op) (fun S x y => ne_bin mm S op x y) (ev_ok a h h2).pe (ev_ok b h h3).pe) fun σ S => (by rw [ev] <;> rfl)) rfl
    · cases m
  | .neg a, X, W, sc, e, h, m => by
    unfold matX at m
    split at m
    · exact .plain (pe_eq (sd_neg (ev_ok a h m).pe) fun σ S => (by rw [ev] <;> rfl)) rfl
    · cases m
  | .not a, X, W, sc, e, h, m => by
    unfold matX at m
    split at m
    · simp only [Bool.and_eq_true] at m
      have D := ev_ok a h m.2
      exact ⟨pe_eq (sd_not D.pe) fun σ S => (by rw [ev] <;> rfl), fun _ => pt_eq (st_not (D.pt m.1)) fun σ S => (by rw [ev] <;> rfl), (fun z => by cases z)⟩
    · cases m
  | .and a b, X, W, sc, e, h, m => by
    unfold matX at m
    split at m
    · rename_i x y rest p
      simp only [Bool.and_eq_true] at m
      obtain ⟨h1, h2, h3⟩ := m
      have A := ev_ok a h h2
      split at h3
      · simp only [Bool.and_eq_true] at h3
        have B := ev_ok b h h3.2
        have pw := sw_and (A.pt h1) (pw_and1 (pos := p) (B.pt h3.1))
        exact ⟨pe_eq (sd_and A.pe (pe_one B.pe)) fun σ S => (by rw [ev] <;> rfl), fun _ => pt_eq (PW.pt pw) fun σ S => (by rw [ev] <;> rfl), fun _ => pw_eq pw fun σ S => (by rw [ev] <;> rfl)⟩
      · have B := ev_ok b h h3
        have pw := sw_and (A.pt h1) (B.pw rfl)
        exact ⟨pe_eq (sd_and A.pe B.pe) fun σ S => (by rw [ev] <;> rfl), fun _ => pt_eq (PW.pt pw) fun σ S => (by rw [ev] <;> rfl), fun _ => pw_eq pw fun σ S => (by rw [ev] <;> rfl)⟩
    · cases m
  | .or a b, X, W, sc, e, h, m => by
    unfold matX at m
    split at m
    · rename_i x y rest p
      simp only [Bool.and_eq_true] at m
      obtain ⟨h1, h2, h3⟩ := m
      have A := ev_ok a h h2
      split at h3
      · simp only [Bool.and_eq_true] at h3
        have B := ev_ok b h h3.2
        have pw := sw_or (A.pt h1) (pw_or1 (pos := p) (B.pt h3.1))
        exact ⟨pe_eq (sd_or A.pe (pe_one B.pe)) fun σ S => (by rw [ev] <;> rfl), fun _ => pt_eq (PW.pt pw) fun σ S => (by rw [ev] <;> rfl), fun _ => pw_eq pw fun σ S => (by rw [ev] <;> rfl)⟩
      · have B := ev_ok b h h3
        have pw := sw_or (A.pt h1) (B.pw rfl)
        exact ⟨pe_eq (sd_or A.pe B.pe) fun σ S => (by rw [ev] <;> rfl), fun _ => pt_eq (PW.pt pw) fun σ S => (by rw [ev] <;> rfl), fun _ => pw_eq pw fun σ S => (by rw [ev] <;> rfl)⟩
    · cases m
  | .ite c a b, X, W, sc, e, h, m => by
    unfold matX at m
    split at m
    · rename_i x y z p
      simp only [Bool.and_eq_true] at m
      obtain ⟨h1, h2, h3, h4⟩ := m
      exact ⟨pe_eq (sd_ite ((ev_ok c h h2).pt h1) (ev_ok a h h3).pe (ev_ok b h h4).pe) fun σ S => (by rw [ev] <;> rfl), (fun z => by cases z), (fun z => by cases z)⟩
    · cases m
  | .cmp op a b, X, W, sc, e, h, m => by
    unfold matX at m
    split at m
    · rename_i x o y p
      simp only [Bool.and_eq_true] at m
      obtain ⟨⟨h1, h2⟩, h3, h4⟩ := m
      have := cOp_eq h1
      subst this
      have A := ev_ok a h h3
      have B := ev_ok b h h4
      exact ⟨pe_eq (sd_cmp (h := fun S x y => cmpop S op x y) (cmpop_ok h.hu op) A.pe B.pe (marks_of h2 _)) fun σ S => (by rw [ev] <;> rfl), fun _ => pt_eq (st_cmp (h := fun S x y => cmpop S op x y) (cmpop_ok h.hu op) A.pe B.pe (marks_of h2 _)) fun σ S => (by rw [ev] <;> rfl), (fun z => by cases z)⟩
    · cases m
  | .chn o1 o2 a b c, X, W, sc, e, h, m => by
    unfold matX at m
    split at m
    · rename_i x p1 p2 y z p
      simp only [Bool.and_eq_true] at m
      obtain ⟨⟨⟨h1, h2⟩, h3, h4⟩, h5, h6, h7⟩ := m
      have := cOp_eq h1
      subst this
      have := cOp_eq h2
      subst this
      have hl : lastMarks [opC o1, opC o2] [y, z] = false := by
        rw [lastMarks.eq_2 _ _ _ _ (by simp)]
        exact marks_of h4 _
      have A := ev_ok a h h5
      have B := ev_ok b h h6
      have C := ev_ok c h h7
      exact ⟨pe_eq (sd_chain (h := fun S x y => cmpop S o1 x y) (h' := fun S x y => cmpop S o2 x y) (cmpop_ok h.hu o1) (cmpop_ok h.hu o2) A.pe B.pe C.pe hl) fun σ S => (by rw [ev] <;> rfl), fun _ => pt_eq (st_chain (h := fun S x y => cmpop S o1 x y) (h' := fun S x y => cmpop S o2 x y) (cmpop_ok h.hu o1) (cmpop_ok h.hu o2) A.pe B.pe C.pe hl) fun σ S => (by rw [ev] <;> rfl), (fun z => by cases z)⟩
    · cases m
  | .idx a b, X, W, sc, e, h, m => by
    unfold matX at m
    split at m
    · simp only [Bool.and_eq_true] at m
      exact .plain (pe_eq (sd_idx h.hu (ev_ok a h m.2.1).pe (ev_ok b h m.2.2).pe m.1) fun σ S => (by rw [ev] <;> rfl)) rfl
    · cases m
  | .slc a lo hi, X, W, sc, e, h, m => by
    unfold matX at m
    split at m
    · simp only [Bool.and_eq_true] at m
      exact .plain (pe_eq (sd_slc (ev_ok a h m.1).pe (evo_ok lo h m.2.1) (evo_ok hi h m.2.2)) fun σ S => (by rw [ev] <;> rfl)) rfl
    · cases m
  | .rev a, X, W, sc, e, h, m => by
    unfold matX at m
    split at m
    · simp only [Bool.and_eq_true, decide_eq_true_eq] at m
      obtain ⟨rfl, m⟩ := m
      exact .plain (pe_eq (sd_rev (ev_ok a h m).pe) fun σ S => (by rw [ev] <;> rfl)) rfl
    · cases m
  | .call fz f cs, X, W, sc, e, h, m => by
    unfold matX at m
    split at m
    · rename_i x p y es pos
      simp only [Bool.and_eq_true, decide_eq_true_eq] at m
      obtain ⟨rfl, h1, h2, h3⟩ := m
      cases hF : arity (P.fn x) cs.len with
      | none =>
        have : PE X (.Call (.Name x p) (y :: es) [] pos) (fun _ _ _ => False) := ⟨fun _ _ _ _ _ _ z => z.elim⟩
        refine .plain (pe_imp this fun σ H Q ⟨w, σD, S, sl, st, q⟩ => ?_) rfl
        simp only [ev, hF] at q
        exact q
      | some F =>
        obtain ⟨hP, ha⟩ : P.fn x = some F ∧ cs.len ≤ F.np ∧ F.np ≤ cs.len + F.dfl.length := by
          unfold arity at hF
          split at hF
          · split at hF
            · cases hF; exact ⟨by assumption, by assumption⟩
            · cases hF
          · cases hF
        obtain ⟨a, fd, hG, hk, ff⟩ := h.fn x F hP
        have hs := stars_es h3
        simp only [List.all_cons, Bool.and_eq_true] at hs
        refine .plain (pe_eq (sd_call (fz := fz) (call := call) ff (h.room.mono (by omega)) (h.Gl h1) (h.gf x a hG) hk h.pass ha (fun σ S ds S' q => len_evs q) hs.1 hs.2 (evs_ok cs h h3) (okN h2).1) fun σ S => ?_) rfl
        rw [ev, hF]
    · cases m
  | .blt mm b a, X, W, sc, e, h, m => by
    unfold matX at m
    split at m
    · rename_i hb
      rw [rgB_no] at hb
      cases hb
    · rename_i hb
      rw [rgB_no] at hb
      cases hb
    · split at m
      · simp only [Bool.and_eq_true, decide_eq_true_eq] at m
        exact .plain (pe_eq (blt_does (m := mm) h m.1 m.2.1 m.2.2.2.1 (ev_ok a h m.2.2.2.2).pe) fun σ S => (by rw [ev] <;> rfl)) rfl
      · cases m
  | .isi a t, X, W, sc, e, h, m => by
    unfold matX at m
    split at m
    · simp only [Bool.and_eq_true, decide_eq_true_eq] at m
      obtain ⟨⟨rfl, rfl⟩, ⟨h1, h2⟩, h3, h4⟩ := m
      have hz : Str.ofString (tyN t) ∈ blts := by cases t <;> simp [tyN, blts]
      exact .plain (pe_eq (sd_isi (t := t) (h.Gl h1) (h.sub (by simp [blts])) (by decide +kernel) (by decide +kernel) (by decide +kernel) h3 (ev_ok a h h4).pe (h.Gl h2) (h.sub hz) (by cases t <;> decide +kernel) (by cases t <;> decide +kernel) (by cases t <;> decide +kernel)) fun σ S => (by rw [ev] <;> rfl)) rfl
    · cases m
  | .lc mm ts it cond elt, X, W, sc, e, h, m => by
    unfold matX at m
    split at m
    · rename_i y tg iter ifs asy scope pos
      simp only [Bool.and_eq_true, decide_eq_true_eq] at m
      obtain ⟨⟨h0, rfl, h1, h2⟩, ⟨h3, h4⟩, h5, h6, h7⟩ := m
      have hb : BlkOk X.N X.env.scope scope (ownOf tg ts) := BlkOk.mono' h.scr (by rw [h.n]; exact blkOk_by h4)
      refine .plain (pe_eq (sd_lc (m := mm) (f := fun σ S => ev P call σ it S) (fc := fun σ S => evc P call σ cond S) (fe := fun σ S => ev P call σ elt S) h.calm (by rw [h.n]; exact h.nd) (evi_ok it h h0 h5) hb h3
        (fun s H C cl fp => tg_does (X := X.blk s H scope (compEnvC scope cl C X.env) fp) h.calm (by rw [show (X.blk s H scope (compEnvC scope cl C X.env) fp).N = N from h.n]; exact h.nd) scope (h.blk scope s H C cl fp).scr (h.blk scope s H C cl fp).fnc (by rw [show (X.blk s H scope (compEnvC scope cl C X.env) fp).N = N from h.n]; exact h2))
        (fun s H C cl fp => evc_ok cond (h.blk scope s H C cl fp) h7)
        (fun s H C cl fp => (ev_ok elt (h.blk scope s H C cl fp) h6).pe) (set_iter h1 X.env)) fun σ S => ?_) rfl
      rw [ev] <;> rfl
    · cases m
  | .dct mm cs, X, W, sc, e, h, m => by
    unfold matX at m
    split at m
    · rename_i keys values pos
      simp only [Bool.or_eq_true, Bool.and_eq_true, decide_eq_true_eq, List.isEmpty_iff] at m
      rcases m with ⟨rfl, rfl, hn⟩ | ⟨⟨h1, h2⟩, h3⟩
      · cases cs with
        | cons a r => cases hn
        | nil => exact .plain (pe_eq sd_dct0 fun σ S => (by rw [ev, evs]; rfl)) rfl
      · have D := evp_ok cs h (pos := pos) h3
        cases cs with
        | nil => cases h2
        | cons a r =>
          cases a with
          | tup es =>
            refine .plain (pe_eq (sd_dct (m := mm) h.hu h.wo D (fun z => by
              subst z
              cases r with
              | nil => simp [matP] at h3
              | cons b r => simp [matP] at h3) h1 fun σ S ds S' e => ?_) fun σ S => (by rw [ev] <;> rfl)) rfl
            rw [evs] at e
            cases e1 : ev P call σ (.tup es) S with
            | bad => rw [e1] at e; cases e
            | exc x S1 => rw [e1] at e; cases e
            | ok d S1 =>
              rw [e1] at e
              simp only [R.bind] at e
              cases e2 : evs P call σ r S1 with
              | bad => rw [e2] at e; cases e
              | exc x S1 => rw [e2] at e; cases e
              | ok ds2 S2 =>
                rw [e2] at e
                cases e
                refine ⟨d, ds2, rfl, ?_⟩
                rw [ev] at e1
                cases e3 : evs P call σ es S with
                | bad => rw [e3] at e1; cases e1
                | exc x S1 => rw [e3] at e1; cases e1
                | ok ds3 S3 =>
                  rw [e3] at e1
                  cases e1
                  rfl
          | _ => cases h2
    · cases m
  | .bm b o cs, X, W, sc, e, h, m => by
    unfold matX at m
    split at m
    · rename_i x n apos y es cpos
      simp only [Bool.and_eq_true, decide_eq_true_eq] at m
      obtain ⟨⟨h1, h2, h3⟩, h4, h5, h6⟩ := m
      exact .plain (pe_eq (bm_does h h1 (ev_ok o h h5).pe (evs_ok cs h h6) h2 (stars_es h6) h3 h4) fun σ S => (by rw [ev])) rfl
    · cases m
  | .vals mm a, X, W, sc, e, h, m => by
    unfold matX at m
    split at m
    · rename_i x p o n apos cpos pos
      simp only [Bool.and_eq_true, decide_eq_true_eq] at m
      obtain ⟨⟨rfl, rfl⟩, ⟨h1, h2⟩, h3, h4⟩ := m
      exact .plain (pe_eq (sd_values (m := mm) h.calm (h.Gl h1) (h.sub (by simp [blts])) (ev_ok a h h4).pe h2 h3) fun σ S => (by rw [ev] <;> rfl)) rfl
    · cases m
  | .lrng mm a, X, W, sc, e, h, m => by
    unfold matX at m
    split at m
    · simp only [Bool.and_eq_true, decide_eq_true_eq] at m
      obtain ⟨⟨rfl, rfl⟩, ⟨h1, h2⟩, h3, h4⟩ := m
      exact .plain (pe_eq (sd_lrng (m := mm) h.calm (h.Gl h1) (h.sub (by simp [blts])) (h.Gl h2) (h.sub (by simp [blts])) h3 (ev_ok a h h4).pe) fun σ S => (by rw [ev])) rfl
    · cases m
  | .enum _, X, W, sc, e, h, m => by
    unfold matX at m
    split at m
    · simp at m
    · cases m
  | .fld a f, X, W, sc, e, h, m => by
    unfold matX at m
    split at m
    · simp only [Bool.and_eq_true, decide_eq_true_eq] at m
      obtain ⟨rfl, h1, h2⟩ := m
      exact .plain (pe_eq (sd_fld (fun c hc => h.cls c _ hc) (ev_ok a h h2).pe h1) fun σ S => (by rw [ev] <;> rfl)) rfl
    · cases m
  | .calv fz f cs, X, W, sc, e, h, m => by
    unfold matX at m
    split at m
    · rename_i a b p y es pos
      simp only [Bool.and_eq_true] at m
      have hs := stars_es m.2
      simp only [List.all_cons, Bool.and_eq_true] at hs
      exact .plain (pe_eq (sd_calv (fz := fz) h.fn (h.room.mono (by omega)) h.pass (fun σ S ds S' q => len_evs q) hs.1 hs.2 (ev_ok f h m.1).pe (evs_ok cs h m.2)) fun σ S => (by rw [ev] <;> rfl)) rfl
    · cases m
  | .meth fz o mm es kn ks, X, W, sc, e, h, m => by
    unfold matX at m
    split at m
    · rename_i x n apos args kws cpos
      simp only [Bool.and_eq_true, decide_eq_true_eq] at m
      obtain ⟨⟨⟨rfl, h1⟩, h2, h3⟩, h4, h5, h6⟩ := m
      have hs := stars_es h5
      split at h6
      · simp only [Bool.and_eq_true, List.isEmpty_iff] at h6
        obtain ⟨rfl, h7⟩ := h6
        cases ks with
        | cons a r => cases h7
        | nil =>
          cases args with
          | nil =>
            cases es with
            | cons a r => unfold matEs at h5; cases h5
            | nil =>
              refine .plain (pe_eq (sd_meth0 (fz := fz) (call := call) (fun c F => h.mth c _ F) (h.room.mono (by omega)) h.pass h1 h2 (ev_ok o h h4).pe) fun σ S => ?_) rfl
              simp only [ev, evs, R.bind, Es.len] <;> rfl
          | cons y ys =>
            simp only [List.all_cons, Bool.and_eq_true] at hs
            refine .plain (pe_eq (sd_meth (fz := fz) (call := call) (n := es.len) (fun c F => h.mth c _ F) (h.room.mono (by omega)) h.pass (fun σ S ds S' q => len_evs q) h1 hs.1 hs.2 (by omega) h2 (ev_ok o h h4).pe (evs_ok es h h5)) fun σ S => ?_) rfl
            simp only [ev, evs, R.bind, Es.len, List.append_nil, Nat.add_zero] <;> rfl
      · rename_i nm v kp
        simp only [Bool.and_eq_true, decide_eq_true_eq] at h6
        obtain ⟨⟨rfl, h7⟩, h8⟩ := h6
        cases args with
        | nil => cases h7
        | cons y ys =>
          simp only [List.all_cons, Bool.and_eq_true] at hs
          cases ks with
          | nil => unfold matEs at h8; cases h8
          | cons kv r =>
            unfold matEs at h8
            simp only [Bool.and_eq_true] at h8
            cases r with
            | cons a r => have h9 := h8.2.2; unfold matEs at h9; cases h9
            | nil =>
              refine .plain (pe_eq (sd_methK (fz := fz) (call := call) (n := es.len) (fun c F => h.mth c _ F) (h.room.mono (by omega)) h.pass (fun σ S ds S' q => len_evs q) h1 hs.1 hs.2 h3 h2 (ev_ok o h h4).pe (evs_ok es h h5) (ev_ok kv h h8.2.1).pe) fun σ S => ?_) rfl
              simp only [ev, evs, Es.len]
              cases ev P call σ o S with
              | ok x S1 =>
                simp only [R.bind]
                cases methQ P S1 x n (es.len + 2) [nm] with
                | none => rfl
                | some F =>
                  simp only
                  cases evs P call σ es S1 with
                  | ok ds S2 =>
                    simp only
                    cases ev P call σ kv S2 <;> rfl
                  | _ => rfl
              | _ => rfl
      · cases h6
    · cases m
  | .new c es kn ks, X, W, sc, e, h, m => by
    unfold matX at m
    split at m
    · rename_i x p args pos
      simp only [Bool.and_eq_true, decide_eq_true_eq, List.isEmpty_iff] at m
      obtain ⟨⟨rfl, h1, h2⟩, ⟨rfl, h3⟩, h4⟩ := m
      have hs := stars_es h4
      cases ks with
      | cons a r => cases h3
      | nil =>
        cases args with
        | nil =>
          cases es with
          | cons a r => unfold matEs at h4; cases h4
          | nil =>
            refine .plain (pe_eq (sd_new0 (call := call) (fun F => h.mkr _ F) h.room h.pass (h.Gl h1) (h.gf _) (okN h2).1) fun σ S => ?_) rfl
            simp only [ev, evs, R.bind, Es.len, List.append_nil, Nat.add_zero] <;> rfl
        | cons y ys =>
          simp only [List.all_cons, Bool.and_eq_true] at hs
          refine .plain (pe_eq (sd_new (call := call) (n := es.len) (fun F => h.mkr _ F) h.room h.pass (h.Gl h1) (h.gf _) (okN h2).1 (fun σ S ds S' q => len_evs q) hs.1 hs.2 (evs_ok es h h4)) fun σ S => ?_) rfl
          simp only [ev, evs, R.bind, Es.len, List.append_nil, Nat.add_zero] <;> rfl
    · cases m
  | .leni a, X, W, sc, e, h, m => by
    unfold matX at m
    split at m
    · simp only [Bool.and_eq_true, decide_eq_true_eq] at m
      obtain ⟨rfl, h1, h2, h3⟩ := m
      exact .plain (pe_eq (sd_leni (call := call) (fun c F => h.mth c _ F) h.room h.pass (h.Gl h1) (h.sub (by simp [blts])) (by decide +kernel) (by decide +kernel) (by decide +kernel) h2 (ev_ok a h h3).pe) fun σ S => (by rw [ev] <;> rfl)) rfl
    · cases m
/-- what is walked -/
theorem evi_ok : ∀ (c : E) {X : Cx} {W : XK} {sc : PySem.Scope} {tg e : Expr} (h : Ctx X G P call k N sc W) (he : enOk c tg = true) (m : matI N sc e c = true), Head X G W tg e c.isVar c.pureIt (fun σ S => ev P call σ c S)
  | .blt mm b a, X, W, sc, tg, e, h, he, m => by
    unfold matX at m
    split at m
    · rename_i hb
      have hb := rgB_1 hb
      subst hb
      split at m
      · simp only [Bool.and_eq_true, decide_eq_true_eq] at m
        obtain ⟨rfl, h1, h2, h3⟩ := m
        exact gen_head (pi_eq (si_range mm false (h.Gl h1) (h.sub (by simp [blts])) h2 (ev_ok a h h3).pe) fun σ S => (by rw [ev] <;> rfl))
      · cases m
    · rename_i hb
      have hb := rgB_2 hb
      subst hb
      split at m
      · simp only [Bool.and_eq_true, decide_eq_true_eq] at m
        obtain ⟨⟨rfl, rfl⟩, ⟨h1, h2⟩, h3, h4⟩ := m
        exact gen_head (pi_eq (si_rrange mm false (h.Gl h2) (h.sub (by simp [blts])) (h.Gl h1) (h.sub (by simp [blts])) h3 (ev_ok a h h4).pe) fun σ S => (by rw [ev] <;> rfl))
      · cases m
    · split at m
      · simp only [Bool.and_eq_true, decide_eq_true_eq] at m
        exact gen_head (si_of false (pe_eq (blt_does (m := mm) h m.1 m.2.1 m.2.2.2.1 (ev_ok a h m.2.2.2.2).pe) fun σ S => (by rw [ev] <;> rfl)))
      · cases m
  | .var i, X, W, sc, tg, e, h, he, m => by
    have m2 : matX N false sc e (.var i) = true := by
      unfold matX at m ⊢
      exact m
    have D := ev_ok (.var i) h m2
    unfold matX at m
    split at m
    · simp only [Bool.and_eq_true, decide_eq_true_eq] at m
      exact var_head h m.1 m.2.1 m.2.2 D.pe
    · cases m
  | .fld d1 d2, X, W, sc, tg, e, h, he, m => by unfold matX at m; exact gen_head (si_of false (ev_ok (.fld d1 d2) h m).pe)
  | .cst d, X, W, sc, tg, e, h, he, m => by unfold matX at m; exact gen_head (si_of false (ev_ok (.cst d) h m).pe)
  | .glb d, X, W, sc, tg, e, h, he, m => by unfold matX at m; exact gen_head (si_of false (ev_ok (.glb d) h m).pe)
  | .tup d, X, W, sc, tg, e, h, he, m => by unfold matX at m; exact gen_head (si_of false (ev_ok (.tup d) h m).pe)
  | .lst d1 d2, X, W, sc, tg, e, h, he, m => by unfold matX at m; exact gen_head (si_of false (ev_ok (.lst d1 d2) h m).pe)
  | .dct d1 d2, X, W, sc, tg, e, h, he, m => by unfold matX at m; exact gen_head (si_of false (ev_ok (.dct d1 d2) h m).pe)
  | .vals d1 d2, X, W, sc, tg, e, h, he, m => by unfold matX at m; exact gen_head (si_of false (ev_ok (.vals d1 d2) h m).pe)
  | .lrng d1 d2, X, W, sc, tg, e, h, he, m => by unfold matX at m; exact gen_head (si_of false (ev_ok (.lrng d1 d2) h m).pe)
  | .bin d1 d2 d3 d4, X, W, sc, tg, e, h, he, m => by unfold matX at m; exact gen_head (si_of false (ev_ok (.bin d1 d2 d3 d4) h m).pe)
  | .neg d1, X, W, sc, tg, e, h, he, m => by unfold matX at m; exact gen_head (si_of false (ev_ok (.neg d1) h m).pe)
  | .not d1, X, W, sc, tg, e, h, he, m => by unfold matX at m; exact gen_head (si_of false (ev_ok (.not d1) h m).pe)
  | .and d1 d2, X, W, sc, tg, e, h, he, m => by unfold matX at m; exact gen_head (si_of false (ev_ok (.and d1 d2) h m).pe)
  | .or d1 d2, X, W, sc, tg, e, h, he, m => by unfold matX at m; exact gen_head (si_of false (ev_ok (.or d1 d2) h m).pe)
  | .ite d1 d2 d3, X, W, sc, tg, e, h, he, m => by unfold matX at m; exact gen_head (si_of false (ev_ok (.ite d1 d2 d3) h m).pe)
  | .cmp d1 d2 d3, X, W, sc, tg, e, h, he, m => by unfold matX at m; exact gen_head (si_of false (ev_ok (.cmp d1 d2 d3) h m).pe)
  | .chn d1 d2 d3 d4 d5, X, W, sc, tg, e, h, he, m => by unfold matX at m; exact gen_head (si_of false (ev_ok (.chn d1 d2 d3 d4 d5) h m).pe)
  | .idx d1 d2, X, W, sc, tg, e, h, he, m => by unfold matX at m; exact gen_head (si_of false (ev_ok (.idx d1 d2) h m).pe)
  | .slc d1 d2 d3, X, W, sc, tg, e, h, he, m => by unfold matX at m; exact gen_head (si_of false (ev_ok (.slc d1 d2 d3) h m).pe)
  | .rev d1, X, W, sc, tg, e, h, he, m => by unfold matX at m; exact gen_head (si_of false (ev_ok (.rev d1) h m).pe)
  | .call d1 d2 d3, X, W, sc, tg, e, h, he, m => by unfold matX at m; exact gen_head (si_of false (ev_ok (.call d1 d2 d3) h m).pe)
  | .calv d1 d2 d3, X, W, sc, tg, e, h, he, m => by unfold matX at m; exact gen_head (si_of false (ev_ok (.calv d1 d2 d3) h m).pe)
  | .meth d1 d2 d3 d4 d5 d6, X, W, sc, tg, e, h, he, m => by unfold matX at m; exact gen_head (si_of false (ev_ok (.meth d1 d2 d3 d4 d5 d6) h m).pe)
  | .new d1 d2 d3 d4, X, W, sc, tg, e, h, he, m => by unfold matX at m; exact gen_head (si_of false (ev_ok (.new d1 d2 d3 d4) h m).pe)
  | .bm d1 d2 d3, X, W, sc, tg, e, h, he, m => by unfold matX at m; exact gen_head (si_of false (ev_ok (.bm d1 d2 d3) h m).pe)
  | .isi d1 d2, X, W, sc, tg, e, h, he, m => by unfold matX at m; exact gen_head (si_of false (ev_ok (.isi d1 d2) h m).pe)
  | .leni d1, X, W, sc, tg, e, h, he, m => by unfold matX at m; exact gen_head (si_of false (ev_ok (.leni d1) h m).pe)
  | .lc d1 d2 d3 d4 d5, X, W, sc, tg, e, h, he, m => by unfold matX at m; exact gen_head (si_of false (ev_ok (.lc d1 d2 d3 d4 d5) h m).pe)
  | .enum a, X, W, sc, tg, e, h, he, m => by
    unfold matX at m
    split at m
    · simp only [Bool.and_eq_true, decide_eq_true_eq, Bool.true_and] at m
      obtain ⟨rfl, h1, h2, h3⟩ := m
      cases tg with
      | Tuple elts kk tpos => exact gen_head (pi_eq (si_enum false (h.Gl h1) (h.sub (by simp [blts])) h2 (ev_ok a h h3).pe) fun σ S => (by rw [ev]))
      | _ => cases he
    · cases m
/-- a display's pairs -/
theorem evp_ok : ∀ (cs : Es) {X : Cx} {W : XK} {sc : PySem.Scope} {keys : List (Option Expr)} {values : List Expr} {pos : Pos} (h : Ctx X G P call k N sc W) (m : matP N sc keys values cs = true), DPs X G W pos keys values (fun σ S => evs P call σ cs S)
  | .nil, X, W, sc, keys, values, pos, h, m => by
    unfold matP at m
    simp only [Bool.and_eq_true, List.isEmpty_iff] at m
    obtain ⟨rfl, rfl⟩ := m
    exact dps_nil.eq fun σ S => (by rw [evs])
  | .cons a .nil, X, W, sc, keys, values, pos, h, m => by
    unfold matP at m
    cases m
  | .cons a (.cons b r), X, W, sc, keys, values, pos, h, m => by
    unfold matP at m
    split at m
    · simp only [Bool.and_eq_true] at m
      exact (dps_cons (ev_ok a h m.1).pe (ev_ok b h m.2.1).pe (evp_ok r h m.2.2)).eq fun σ S => (by simp only [evs] <;> rfl)
    · cases m
theorem evs_ok : ∀ (cs : Es) {X : Cx} {W : XK} {sc : PySem.Scope} {es : List Expr} (h : Ctx X G P call k N sc W) (m : matEs N sc es cs = true), PA X es (tEVs G W fun σ S => evs P call σ cs S)
  | .nil, X, W, sc, es, h, m => by
    unfold matEs at m
    split at m
    · exact pa_eq sa_nil fun σ S => (by rw [evs] <;> rfl)
    · cases m
  | .cons c cs, X, W, sc, es, h, m => by
    unfold matEs at m
    split at m
    · simp only [Bool.and_eq_true] at m
      exact pa_eq (sa_cons m.1 (ev_ok c h m.2.1).pe (evs_ok cs h m.2.2)) fun σ S => (by rw [evs] <;> rfl)
    · cases m
theorem evo_ok : ∀ (cs : Es) {X : Cx} {W : XK} {sc : PySem.Scope} {o : Option Expr} (h : Ctx X G P call k N sc W) (m : matO N sc o cs = true), PO X o (tEVO G W fun σ S => evs P call σ cs S)
  | .nil, X, W, sc, o, h, m => by
    unfold matO at m
    split at m
    · exact po_eq so_none fun σ S => (by rw [evs] <;> rfl)
    · cases m
  | .cons c .nil, X, W, sc, o, h, m => by
    unfold matO at m
    split at m
    · simp only [Bool.and_eq_true] at m
      exact po_eq (so_some (ev_ok c h m.1).pe) fun σ S => rfl
    · cases m
  | .cons c (.cons d r), X, W, sc, o, h, m => by
    unfold matO at m
    split at m
    · simp at m
    · cases m
theorem evc_ok : ∀ (cs : Es) {X : Cx} {W : XK} {sc : PySem.Scope} {o : List Expr} (h : Ctx X G P call k N sc W) (m : matO1 N sc o cs = true), PTs X o (tTS G W fun σ S => evc P call σ cs S)
  | .nil, X, W, sc, o, h, m => by
    unfold matO1 at m
    split at m
    · exact pts_eq sts_nil fun σ S => (by rw [evc] <;> rfl)
    · cases m
  | .cons c .nil, X, W, sc, o, h, m => by
    unfold matO1 at m
    split at m
    · simp only [Bool.and_eq_true] at m
      exact pts_eq (sts_one ((ev_ok c h m.1.2).pt m.1.1)) fun σ S => (by simp only [evc] <;> rfl)
    · cases m
  | .cons c (.cons d r), X, W, sc, o, h, m => by
    unfold matO1 at m
    split at m
    · simp at m
    · cases m
end
end
end Lt
namespace Lt
open PySem L2 PySem.Spec PyProof.Rows
/-- what such a def promises, the error and its object being given -/
structure FnE (Pm : Program) (wd : World) (K : PySem.W.Frag) (mg : Str → Option Value) (base : Heap) (k : Nat) (f : Addr) (fd : FuncData) (ps : List Str) (sp : Addr × Obj → Sp) : Prop where
  len : ∀ p vs H Q E, sp p vs H Q E → vs.length = ps.length
  run : ∀ (A : Around) (outer : List Env) (s : Shared) (H : Hp) (args : Args) (us : List Value) (vs : List V) (Q : VK) (E : XK) (p : Addr × Obj),
    L2H.RoomH k A → L2H.Hot1 A p → L2H.PinOk outer H s p → Env0 Pm wd K mg base A outer s H → BindsTo s fd args (ps.zip us) → Vals vs us → sp p vs H Q E →
      codeAny (model Pm wd) A (.call (.ref f) args) (CR (L2N.CX Pm wd) outer Pm wd H s Q E) s
abbrev cxE (Pm : Program) (wd : World) (K : PySem.W.Frag) (mg : Str → Option Value) (base : Heap) (N : List Str) (qual : Str) (scope : Scope) (f : Addr) (cd : Value) (A : Around) (outer : List Env) (s : Shared) (H : Hp) (E : XK) (p : Addr × Obj) : Cx :=
  L2H.cxH (L2N.CX Pm wd) Pm wd K mg base N qual scope f cd A outer s H E p
theorem fn_ofE {Pm : Program} {wd : World} {K : PySem.W.Frag} {mg : Str → Option Value} {base : Heap} {k : Nat} {f : Addr} {name qual : Str} {params : Arguments} {body : List Stmt} {scope : Scope} {dV kV doc pm cdv ct oc : Value} {an od : Option Addr}
    {osl : Array (Option Value)} {N ps : List Str} {sp : Addr × Obj → Sp} (lk : K.lookup f = some ⟨oc, od, .func (PySem.W.fnOf name qual params body scope dV kV doc pm an cdv ct), osl⟩) (ci : PySem.W.codeIn K cdv qual = true) (fs : FnScope N ps scope)
    (hlen : ∀ p vs H Q E, sp p vs H Q E → vs.length = ps.length)
    (hb : ∀ (A : Around) (outer : List Env) (s : Shared) (H : Hp) (vs : List V) (Q : VK) (E : XK) (p : Addr × Obj), L2H.Hot1 A p → L2H.RoomH k (A.deeper (envOfC qual scope s.heap.objs.size f cdv)) → sp p vs H Q E →
      ∃ t, PSs (cxE Pm wd K mg base N qual scope f cdv A outer s H E p) body t ∧ t { nx := fun _ H' => Q .non H', rt := Q } (L2.start N vs) H) :
    FnE Pm wd K mg base (k + 1) f (PySem.W.fnOf name qual params body scope dV kV doc pm an cdv ct) ps sp := by
  constructor
  · exact hlen
  intro A outer s H args us vs Q E p room hot pin env bnd rv q0
  have kin : K.In s.heap := env.mod.kin.keeps fun b o e => (env.bs b o e).1
  have noLim : s.heap.NoLimit := env.mod.nolimit.keeps fun b o e => (env.bs b o e).1
  have kinds : ∀ z ∈ ps.zip us, scope.names.lookup z.1 = some .local ∨ (scope.names.lookup z.1 = some .cell ∧ ((cellsFrom (s.heap.objs.size + 1) scope.names []).lookup z.1).isSome = true) := by
    rintro ⟨n, v⟩ hz
    cases fs.par n (List.of_mem_zip hz).1 with
    | inl q => exact .inl q
    | inr q => exact .inr ⟨q, PySem.W.cellsFrom_some _ _ _ (.inl q)⟩
  refine codeAny_call_function room.depth (kin _ _ lk) rfl fs.co fs.gen rfl (PySem.W.codeRec_of kin ci) (bnd _ _ _ _ (wpAny_newFunctionEnv_cells fs.kind kinds fun en hen s1 st => ?_))
  subst hen
  refine ⟨noLim.keeps st.toInCall.keep, codeAny_func ?_⟩
  obtain ⟨t, ht, hq⟩ := hb A outer s H vs Q E p hot (room.deeper _) q0
  have J : Inv (cxE Pm wd K mg base N qual scope f cdv A outer s H E p) [] (L2.start N vs) H s1 := L2H.inv_startH fs pin env (hlen _ _ _ _ _ q0) rv st
  have done : ∀ {s' : Shared} {σ' : L2.St} {H' : Hp} {v : V} {u : Value}, Inv (cxE Pm wd K mg base N qual scope f cdv A outer s H E p) [] σ' H' s' → RelV v u → Q v H' → CE outer Pm wd H s Q u s' :=
    fun {s' σ' H' v u} I r q => ⟨v, H', I.os, I.bare, I.base, I.hok, r, q⟩
  refine wpAny_mono (ht.run [] s1 (L2.start N vs) H _ J hq) (fun fl s' z => ?_) fun _ _ z => z
  cases fl with
  | ret u => obtain ⟨v, σ', H', I, r, q⟩ := z; exact done I r q
  | next => obtain ⟨σ', H', I, q⟩ := z; exact done (v := V.non) (u := Value.none) I rfl q
  | brk => obtain ⟨_, _, _, q⟩ := z; exact q.elim
  | cont => obtain ⟨_, _, _, q⟩ := z; exact q.elim
section
variable {X : Cx} {k : Nat} {f : Addr} {fd : FuncData} {ps : List Str} {sp : Addr × Obj → Sp} {x : Str} {q pos : Pos} {e : Expr} {es : List Expr} {t : TA}
/-- such a def is asked in the suite -/
theorem pe_callE {p : Addr × Obj} (F : FnE X.prog X.w X.K X.mg X.base k f fd ps sp) (room : L2H.RoomH k X.A) (hot : L2H.Hot1 X.A p) (hp : p ∈ X.pn) (hg : Gl X x) (hm : X.mg x = some (.ref f)) (kp : PySem.W.keepIn X.K (.ref f) = true) (bnd : Binds X.K fd ps [])
    (ha : PA X (e :: es) t) (hd : (x == Str.ofString "__debug__") = false) (h1 : noStar e = true) (h2 : (es.all noStar) = true) :
    PE X (.Call (.Name x q) (e :: es) [] pos) (fun σ H Q => t σ H fun vs H1 => sp p vs H1 Q fun _ _ _ => False) := by
  refine ⟨fun pins s σ H Q I h => wpAny_Call_Name_kw (ld_glob I hg hm ?_ hd)⟩
  refine PySem.W.callWith_K (h₀ := X.base) I.ok.mod.kin kp (thn (ha.run pos pins s σ H _ I h) fun us s1 ⟨vs, H1, J, r, z⟩ => ⟨J.kIn, ?_⟩) (star_of h1 es X.env) (stars_of h2 pos X.env)
  have hl : us.length = ps.length := by rw [← r.length]; exact F.len _ _ _ _ _ z
  have b := bnd s1 us J.kIn (by rw [List.append_nil]; exact hl)
  rw [List.append_nil] at b
  obtain ⟨p1, p2, p3, p4, p5⟩ := J.pin p (List.mem_append_left _ hp)
  have po : L2H.PinOk X.stack H1 s1 p := ⟨p1, p2, fun m => by
    rcases List.mem_cons.mp (J.stkSub p.1 m) with y | y
    · exact p3 y
    · exact p4 y, p5⟩
  refine wpAny_call (codeAny_mono (F.run X.A X.stack s1 H1 ⟨us, []⟩ us vs Q _ p room hot po J.env0 b r z) fun res s' y => ?_)
  cases res with
  | error err =>
    obtain ⟨_, _, _, _, _, _, _, _, _, _, _, _, y⟩ := y
    exact y.elim
  | ok fl =>
    cases fl with
    | ret u => exact J.after y
    | next => exact y.elim
    | brk => exact y.elim
    | cont => exact y.elim
end
/-! ### isinstance of the error -/
section
variable {X : Cx} {G : AMap} {W : XK} {p : Addr × Obj}
theorem call_isx {C : Addr} {cV : V} {cv : Value} {b : Bool} (hp : p ∈ X.pn) (ec : ExcC X.K C) (hz : Zc (.ref C) none p.2) (hf : ∃ vs, p.2.data = .fields vs) (hcv : ∀ u, RelV cV u → u = cv) (kb : PySem.W.kitOne X.K (.ref C) cv = some b) :
    CallR X (.builtin "isinstance") (fun xs H Q => xs = [.ref p.1, cV] ∧ Q (.bl b) H) := by
  rintro pins s σ H xs us Q I r ⟨rfl, q⟩
  obtain ⟨u, c, rfl, ru, rc⟩ := vals2 r
  obtain rfl := hcv _ rc
  obtain rfl : u = Value.ref p.1 := ru
  obtain ⟨there, _⟩ := I.pin p (List.mem_append_left _ hp)
  obtain ⟨vs, hv⟩ := hf
  have at_ : PySem.W.InstAt s.heap p.1 p.2 C none := by
    obtain ⟨pa, ⟨oc, od, oda, osl⟩⟩ := p
    obtain ⟨z1, z2⟩ := hz
    simp only at z1 z2 hv there ⊢
    subst z1 z2 hv
    exact ⟨there, rfl, rfl, trivial⟩
  refine PySem.W.kia_one (PySem.W.handS_kitx_exc ec.hg ec.hk ec.hs ec.hd ec.ha ec.hn ec.ht ec.hm) I.kIn at_ kb (by intro z; cases z) fun tk => ?_
  exact ⟨.bl b, H, I.tok tk, rfl, q⟩
def isxF (bang : Str) (b : Bool) : fE := fun σ S => if σ[0]? = some (some (.fn bang)) then .ok (.bl b) S else .bad
theorem sd_isx {C : Addr} {cV : V} {cv : Value} {b : Bool} {bang x y : Str} {p1 p2 p3 pos : Pos} (hp : p ∈ X.pn) (ec : ExcC X.K C) (hz : Zc (.ref C) none p.2) (hf : ∃ vs, p.2.data = .fields vs) (hcv : ∀ u, RelV cV u → u = cv) (kb : PySem.W.kitOne X.K (.ref C) cv = some b)
    (hG : G bang = some p.1) (hN : X.N[0]? = some x) (hv : Vis X.env.scope x) (hx1 : (x == Str.ofString "__debug__") = false) (hx2 : (x == Str.ofString "__classdict__") = false) (hy : PE X (.Name y p3) (tC cV)) (hg : Gl X (Str.ofString "isinstance")) (hm : X.mg (Str.ofString "isinstance") = none) :
    PE X (.Call (.Name (Str.ofString "isinstance") p1) [.Name x p2, .Name y p3] [] pos) (tEV G W (isxF bang b)) := by
  refine pe_imp (pe_callB (call_isx hp ec hz hf hcv kb) hg hm (by decide +kernel) (pa_cons (pe_var hN hv hx1 hx2) (pa_cons hy pa_nil (star_of rfl [] X.env)) (star_of rfl [_] X.env)) (by decide +kernel) (by decide +kernel) (star_of rfl [_] X.env) (stars_of (by rfl) pos X.env)) fun σ H Q ⟨w, σD, S, sl, st, q⟩ => ?_
  unfold isxF at q
  split at q
  · rename_i e
    obtain ⟨v, e1, a, rfl, ga⟩ := sl.at_ 0 _ e
    rw [hG] at ga
    cases ga
    exact ⟨_, e1, rfl, GoodV.here q st rfl⟩
  · exact q.elim
end
end Lt
namespace Lt
open PySem L2 PySem.Spec PyProof.Rows
def noComp : Expr → Bool
  | .ListComp _ _ _ _ => false
  | .SetComp _ _ _ _ => false
  | .DictComp _ _ _ _ _ => false
  | _ => true
def eN : Str := Str.ofString "_law_e"
def ownN : Str := Str.ofString "_law_own"
def veN : Str := Str.ofString "ValueError"
def isxB (sc : PySem.Scope) (y : Str) : Expr → Bool
  | .Call (.Name f _) [.Name x _, .Name z _] [] _ => (decide (f = Str.ofString "isinstance") && decide (x = eN)) && (decide (z = y) && (glB sc f && glB sc z))
  | _ => false
def isxsB (sc : PySem.Scope) : List Str → List Expr → Bool
  | [], [] => true
  | y :: ys, e :: es => isxB sc y e && isxsB sc ys es
  | _, _ => false
/-- own.m(..) -/
def ownB (m : Str) (a : List Expr → Bool) : Expr → Bool
  | .Call (.Attribute (.Name x _) n ap) es [] cp => (decide (x = ownN) && decide (n = m)) && ((ap.endLine == cp.line) && a es)
  | _ => false
def lstB (sc : PySem.Scope) (ys : List Str) : List Expr → Bool
  | [.List es _] => isxsB sc ys es
  | _ => false
def oneB (sc : PySem.Scope) (y : Str) : List Expr → Bool
  | [e] => isxB sc y e
  | _ => false
def truB : List Expr → Bool
  | [.Constant (.bool true) _ _] => true
  | _ => false
def refB (f : Expr → Bool) : Expr → Bool
  | .Tuple [.Constant (.str x) _ _, e] _ _ => decide (x = Str.ofString "refused") && f e
  | _ => false
def negB : Expr → Bool
  | .UnaryOp .USub (.Constant (.int i) _ _) _ => decide (i = 1)
  | _ => false
def cntB : Expr → Bool
  | .Compare e [.NotEq] [.Constant (.int i) _ _] _ => decide (i = 1) && ownB (Str.ofString "count") truB e
  | _ => false
def nveB (sc : PySem.Scope) : Expr → Bool
  | .UnaryOp .Not e _ => isxB sc veN e
  | _ => false
def whichB (sc : PySem.Scope) : List Stmt → Bool
  | [.Assign [.Name x _] (.List es0 _) _, .Expr e1 _, .Expr e2 _, .Expr e3 _, .Expr e4 _, .If (.BoolOp .Or [c1, c2] _) [.Return (some r1) _] [] _, .Return (some r2) _] =>
    (decide (x = ownN) && (isxsB sc wa1 es0 && (ownB (Str.ofString "extend") (lstB sc wa2) e1 && (ownB (Str.ofString "extend") (lstB sc wa3) e2 && ownB (Str.ofString "extend") (lstB sc wa4) e3)))) &&
      (ownB (Str.ofString "append") (oneB sc wa5) e4 && ((cntB c1 && nveB sc c2) && (refB negB r1 && refB (ownB (Str.ofString "index") truB) r2)))
  | _ => false
/-- where the def runs -/
structure WCx (X : Cx) (G : AMap) (W : XK) (sc : PySem.Scope) (bang : Str) (cl : Str → Bool) : Prop where
  n : X.N = [eN, ownN]
  sce : X.env.scope = sc
  lo : sc.names.lookup ownN = some .local
  hu : X.A.units + 20 < cLine
  is : ∀ {y : Str} {e : Expr}, isxB sc y e = true → (y ∈ wa1 ++ wa2 ++ wa3 ++ wa4 ++ [wa5, veN]) → PE X e (tEV G W (isxF bang (cl y)))
def isxsF (bang : Str) (cl : Str → Bool) : List Str → Slots → Sto → R (List D)
  | [], _, S => .ok [] S
  | y :: ys, σ, S => (isxF bang (cl y) σ S).bind fun d S1 => (isxsF bang cl ys σ S1).bind fun ds S2 => .ok (d :: ds) S2
section
variable {X : Cx} {G : AMap} {W : XK} {sc : PySem.Scope} {bang : Str} {cl : Str → Bool}
theorem isx_star {y : Str} {e : Expr} (h : isxB sc y e = true) : noStar e = true := by
  unfold isxB at h
  split at h
  · rfl
  · cases h
theorem isxs_ok (h : WCx X G W sc bang cl) : ∀ {ys : List Str} {es : List Expr}, isxsB sc ys es = true → (∀ y ∈ ys, y ∈ wa1 ++ wa2 ++ wa3 ++ wa4 ++ [wa5, veN]) → PA X es (tEVs G W (isxsF bang cl ys))
  | [], [], _, _ => sa_nil
  | [], _ :: _, m, _ => by cases m
  | _ :: _, [], m, _ => by cases m
  | y :: ys, e :: es, m, hy => by
    simp only [isxsB, Bool.and_eq_true] at m
    exact sa_cons (isx_star m.1) (h.is m.1 (hy y List.mem_cons_self)) (isxs_ok h m.2 fun z hz => hy z (List.mem_cons_of_mem _ hz))
theorem isxs_len {ys : List Str} : ∀ {σ : Slots} {S : Sto} {ds : List D} {S' : Sto}, isxsF bang cl ys σ S = .ok ds S' → ds.length = ys.length := by
  induction ys with
  | nil => intro σ S ds S' e; cases e; rfl
  | cons y ys ih =>
    intro σ S ds S' e
    rw [isxsF] at e
    cases e1 : isxF bang (cl y) σ S with
    | bad => rw [e1] at e; cases e
    | exc x S1 => rw [e1] at e; cases e
    | ok d S1 =>
      rw [e1] at e
      simp only [R.bind] at e
      cases e2 : isxsF bang cl ys σ S1 with
      | bad => rw [e2] at e; cases e
      | exc x S1 => rw [e2] at e; cases e
      | ok ds2 S2 =>
        rw [e2] at e
        cases e
        rw [List.length_cons, List.length_cons, ih e2]
def varF (i : Nat) : fE := fun σ S => match σ[i]? with
  | some (some d) => .ok d S
  | _ => .bad
def ownF (b : Bmt) (fes : Slots → Sto → R (List D)) : fE := fun σ S => (varF 1 σ S).bind fun x S1 => if recv S1 b x then (fes σ S1).bind fun ds S2 => bmeth S2 b x ds else .bad
theorem own_var (h : WCx X G W sc bang cl) {p : Pos} : PE X (.Name ownN p) (tEV G W (varF 1)) :=
  sd_var (by rw [h.n]; rfl) (.inl (by rw [h.sce]; exact h.lo)) (by decide +kernel) (by decide +kernel)
/-- own.m(e) -/
theorem own_ok (h : WCx X G W sc bang cl) {b : Bmt} {m : Str} {a : List Expr → Bool} {e : Expr} {fes : Slots → Sto → R (List D)} (hb : b = .append ∧ m = Str.ofString "append" ∨ b = .extend ∧ m = Str.ofString "extend" ∨ b = .count ∧ m = Str.ofString "count" ∨ b = .index ∧ m = Str.ofString "index")
    (ha : ∀ es, a es = true → ∃ e, es = [e] ∧ noStar e = true ∧ PA X es (tEVs G W fes)) (q : ownB m a e = true) : PE X e (tEV G W (ownF b fes)) := by
  have tl : ∀ (w : Wd) (S : Sto) (H : Hp) (a : D) (x : V), StoR G w S H → Rep G H w a x → (lstOf S a).isSome = true → TyW X "list" x H := fun w S H a x st ra hr => by
    obtain ⟨xs, hx⟩ := Option.isSome_iff_exists.mp hr
    obtain ⟨c, us, rfl, rd, _⟩ := lst_at st ra hx
    exact tyw_lst rd
  unfold ownB at q
  split at q
  · rename_i x p n ap es cp
    simp only [Bool.and_eq_true, decide_eq_true_eq] at q
    obtain ⟨⟨rfl, rfl⟩, hl, q⟩ := q
    obtain ⟨e, rfl, hs, hA⟩ := ha _ q
    have hst : ([e].all noStar) = true := by simp [hs]
    rcases hb with ⟨rfl, rfl⟩ | ⟨rfl, rfl⟩ | ⟨rfl, rfl⟩ | ⟨rfl, rfl⟩
    · exact sd_bm PySem.F.plainAttrs_list PySem.F.slot_list_append PySem.F.type_list_append append_ok tl (own_var h) hA rfl hst (by simp) hl
    · exact sd_bm PySem.F.plainAttrs_list PySem.F.slot_list_extend PySem.F.type_list_extend extend_ok tl (own_var h) hA rfl hst (by simp) hl
    · exact sd_bm PySem.F.plainAttrs_list PySem.F.slot_list_count PySem.F.type_list_count (lcount_ok h.hu) tl (own_var h) hA rfl hst (by simp) hl
    · exact sd_bm PySem.F.plainAttrs_list PySem.F.slot_list_index PySem.F.type_list_index (lindex_ok h.hu) tl (own_var h) hA rfl hst (by simp) hl
  · cases q
def lstF (bang : Str) (cl : Str → Bool) (m : Bool) (ys : List Str) : fE := fun σ S => (isxsF bang cl ys σ S).bind fun ds S1 => mkL m ds S1
def oneA (f : fE) : Slots → Sto → R (List D) := fun σ S => (f σ S).bind fun d S1 => (R.ok [] S1).bind fun ds S2 => .ok (d :: ds) S2
theorem one_pa {e : Expr} {f : fE} (hs : noStar e = true) (h : PE X e (tEV G W f)) : PA X [e] (tEVs G W (oneA f)) := sa_cons (g := fun _ S => .ok [] S) hs h sa_nil
theorem lst_pe (h : WCx X G W sc bang cl) {m : Bool} {ys : List Str} {es : List Expr} {pos : Pos} (q : isxsB sc ys es = true) (hy : ∀ y ∈ ys, y ∈ wa1 ++ wa2 ++ wa3 ++ wa4 ++ [wa5, veN]) (hl : ys.length ≤ 4096) : PE X (.List es pos) (tEV G W (lstF bang cl m ys)) :=
  sd_lst (fun σ S ds S' z => by rw [isxs_len z]; exact hl) (isxs_ok h q hy)
theorem lst_pa (h : WCx X G W sc bang cl) {ys : List Str} (hy : ∀ y ∈ ys, y ∈ wa1 ++ wa2 ++ wa3 ++ wa4 ++ [wa5, veN]) (hl : ys.length ≤ 4096) (es : List Expr) (q : lstB sc ys es = true) : ∃ e, es = [e] ∧ noStar e = true ∧ PA X es (tEVs G W (oneA (lstF bang cl false ys))) := by
  unfold lstB at q
  split at q
  · exact ⟨_, rfl, rfl, one_pa rfl (lst_pe h q hy hl)⟩
  · cases q
theorem one_pa' (h : WCx X G W sc bang cl) {y : Str} (hy : y ∈ wa1 ++ wa2 ++ wa3 ++ wa4 ++ [wa5, veN]) (es : List Expr) (q : oneB sc y es = true) : ∃ e, es = [e] ∧ noStar e = true ∧ PA X es (tEVs G W (oneA (isxF bang (cl y)))) := by
  unfold oneB at q
  split at q
  · exact ⟨_, rfl, isx_star q, one_pa (isx_star q) (h.is q hy)⟩
  · cases q
theorem tru_pa (es : List Expr) (q : truB es = true) : ∃ e, es = [e] ∧ noStar e = true ∧ PA X es (tEVs G W (oneA fun _ S => .ok (.bl true) S)) := by
  unfold truB at q
  split at q
  · exact ⟨_, rfl, rfl, one_pa rfl (sd_val (d := .bl true) pe_bl fun _ _ _ _ => rfl)⟩
  · cases q
def refF (f : fE) : fE := fun σ S => (oneA2 (fun _ S => .ok (.str (Str.ofString "refused")) S) f σ S).bind fun ds S1 => .ok (.tup ds) S1
where oneA2 (g f : fE) : Slots → Sto → R (List D) := fun σ S => (g σ S).bind fun d S1 => (oneA f σ S1).bind fun ds S2 => .ok (d :: ds) S2
theorem ref_pe {f : fE} {b : Expr → Bool} (hb : ∀ e, b e = true → noStar e = true ∧ PE X e (tEV G W f)) {e : Expr} (q : refB b e = true) : PE X e (tEV G W (refF f)) := by
  unfold refB at q
  split at q
  · rename_i x k p e j pos
    simp only [Bool.and_eq_true, decide_eq_true_eq] at q
    obtain ⟨rfl, q⟩ := q
    obtain ⟨h1, h2⟩ := hb _ q
    refine sd_tup (fun σ S ds S' z => ?_) (sa_cons rfl (sd_val (d := .str (Str.ofString "refused")) pe_str fun _ _ _ _ => rfl) (one_pa h1 h2))
    have z : (oneA f σ S).bind (fun ds S2 => R.ok (D.str (Str.ofString "refused") :: ds) S2) = .ok ds S' := z
    unfold oneA at z
    cases e1 : f σ S with
    | ok d S1 => rw [e1] at z; cases z; simp
    | exc x S1 => rw [e1] at z; cases z
    | bad => rw [e1] at z; cases z
  · cases q
def notF (f : fE) : fE := fun σ S => (f σ S).bind fun x S1 => match x with
  | .bl b => .ok (.bl (!b)) S1
  | _ => .bad
def orF (f g : fE) : fE := fun σ S => (f σ S).bind fun x S1 => match x with
  | .bl true => .ok (.bl true) S1
  | .bl false => g σ S1
  | _ => .bad
def cneF (f : fE) (i : Int) : fE := fun σ S => (f σ S).bind fun x S1 => (R.ok (D.int i) S1).bind fun y S2 => match (eqT (topOf S2 x) (topOf S2 y)).map not with
  | some k => .ok (.bl k) S2
  | none => .bad
def setF (i : Nat) (f : fE) : fS := fun σ S => match f σ S with
  | .ok d S1 => .nx (σ.set i (some d)) S1
  | .exc x S1 => .exc x S1
  | .bad => .bad
def expF (f : fE) : fS := fun σ S => match f σ S with
  | .ok _ S1 => .nx σ S1
  | .exc x S1 => .exc x S1
  | .bad => .bad
def retF (f : fE) : fS := fun σ S => match f σ S with
  | .ok d S1 => .rt d S1
  | .exc x S1 => .exc x S1
  | .bad => .bad
def iffF (f : fE) (g h : fS) : fS := fun σ S => match f σ S with
  | .ok (.bl true) S1 => g σ S1
  | .ok (.bl false) S1 => h σ S1
  | .exc x S1 => .exc x S1
  | _ => .bad
def seqF (f g : fS) : fS := fun σ S => match f σ S with
  | .nx σ' S' => g σ' S'
  | o => o
def nilF : fS := fun σ S => .nx σ S
def whichF (bang : Str) (cl : Str → Bool) : fS :=
  seqF (setF 1 (lstF bang cl true wa1)) (seqF (expF (ownF .extend (oneA (lstF bang cl false wa2)))) (seqF (expF (ownF .extend (oneA (lstF bang cl false wa3)))) (seqF (expF (ownF .extend (oneA (lstF bang cl false wa4))))
    (seqF (expF (ownF .append (oneA (isxF bang (cl wa5))))) (seqF (iffF (orF (cneF (ownF .count (oneA fun _ S => .ok (.bl true) S)) 1) (notF (isxF bang (cl veN)))) (seqF (retF (refF fun _ S => .ok (.int (-1)) S)) nilF) nilF)
      (seqF (retF (refF (ownF .index (oneA fun _ S => .ok (.bl true) S)))) nilF))))))
theorem which_ok (h : WCx X G W sc bang cl) {body : List Stmt} (q : whichB sc body = true) : PSs X body (tEX G W (whichF bang cl)) := by
  have m1 : ∀ y ∈ wa1, y ∈ wa1 ++ wa2 ++ wa3 ++ wa4 ++ [wa5, veN] := fun y hy => by simp only [List.mem_append]; exact .inl (.inl (.inl (.inl hy)))
  have m2 : ∀ y ∈ wa2, y ∈ wa1 ++ wa2 ++ wa3 ++ wa4 ++ [wa5, veN] := fun y hy => by simp only [List.mem_append]; exact .inl (.inl (.inl (.inr hy)))
  have m3 : ∀ y ∈ wa3, y ∈ wa1 ++ wa2 ++ wa3 ++ wa4 ++ [wa5, veN] := fun y hy => by simp only [List.mem_append]; exact .inl (.inl (.inr hy))
  have m4 : ∀ y ∈ wa4, y ∈ wa1 ++ wa2 ++ wa3 ++ wa4 ++ [wa5, veN] := fun y hy => by simp only [List.mem_append]; exact .inl (.inr hy)
  have m5 : wa5 ∈ wa1 ++ wa2 ++ wa3 ++ wa4 ++ [wa5, veN] := by simp only [List.mem_append]; exact .inr List.mem_cons_self
  have m6 : veN ∈ wa1 ++ wa2 ++ wa3 ++ wa4 ++ [wa5, veN] := by simp only [List.mem_append]; exact .inr (List.mem_cons_of_mem _ List.mem_cons_self)
  unfold whichB at q
  split at q
  · rename_i x px es0 p0 q0 e1 q1 e2 q2 e3 q3 e4 q4 c1 c2 pb r1 q5 q6 r2 q7
    simp only [Bool.and_eq_true, decide_eq_true_eq] at q
    obtain ⟨⟨rfl, i1, i2, i3, i4⟩, i5, ⟨i6, i7⟩, i8, i9⟩ := q
    have nd : X.N.Nodup := by rw [h.n]; decide
    have lo : X.env.scope.names.lookup ownN = some .local := by rw [h.sce]; exact h.lo
    have n1 : X.N[1]? = some ownN := by rw [h.n]; rfl
    have com : ∀ {m : Str} {a : List Expr → Bool} {e : Expr}, ownB m a e = true → noComp e = true := fun {m a e} z => by
      unfold ownB at z
      split at z
      · rfl
      · cases z
    have sw : ∀ {e : Expr}, noComp e = true → ∀ t l env, swapsWith e t l env = Pure.pure false := fun {e} z t l env => by
      cases e <;> first | rfl | exact absurd z (by simp [noComp])
    have c1t : PT X c1 (tEVT G W (cneF (ownF .count (oneA fun _ S => .ok (.bl true) S)) 1)) := by
      unfold cntB at i6
      split at i6
      · rename_i e i k p pos
        simp only [Bool.and_eq_true, decide_eq_true_eq] at i6
        obtain ⟨rfl, i6⟩ := i6
        exact st_cmp (h := fun S a b => (eqT (topOf S a) (topOf S b)).map not) (ne_ok h.hu) (own_ok h (.inr (.inr (.inl ⟨rfl, rfl⟩))) tru_pa i6) (sd_val (d := .int 1) pe_int fun _ _ _ _ => rfl) rfl
      · cases i6
    have c2t : PT X c2 (tEVT G W (notF (isxF bang (cl veN)))) := by
      unfold nveB at i7
      split at i7
      · rename_i e pos
        have hp : plainT e = true := by
          unfold isxB at i7
          split at i7
          · rfl
          · cases i7
        exact st_not (pt_of hp (h.is i7 m6))
      · cases i7
    have cnd : PT X (.BoolOp .Or [c1, c2] pb) (tEVT G W (orF (cneF (ownF .count (oneA fun _ S => .ok (.bl true) S)) 1) (notF (isxF bang (cl veN))))) := PW.pt (sw_or c1t (pw_or1 (pos := pb) c2t))
    have r1p : PE X r1 (tEV G W (refF fun _ S => .ok (.int (-1)) S)) := ref_pe (fun e z => by
      unfold negB at z
      split at z
      · rename_i i k p pos
        simp only [decide_eq_true_eq] at z
        subst z
        exact ⟨rfl, sd_neg (sd_val (d := .int 1) pe_int fun _ _ _ _ => rfl)⟩
      · cases z) i8
    have r2p : PE X r2 (tEV G W (refF (ownF .index (oneA fun _ S => .ok (.bl true) S)))) := ref_pe (fun e z => by
      refine ⟨?_, own_ok h (.inr (.inr (.inr ⟨rfl, rfl⟩))) tru_pa z⟩
      unfold ownB at z
      split at z
      · rfl
      · cases z) i9
    refine sx_cons (sx_asg (fun σ d S => ⟨(fun _ _ z => by cases z), (fun _ _ z => by cases z)⟩) (lst_pe h i1 m1 (by decide)) (sg_one (G := G) (W := W) nd n1 (.inl lo) (.inr lo)) (show swapsWith (.List es0 p0) (some (.Name ownN px)) q0.line X.env = Pure.pure false from sw (e := .List es0 p0) rfl _ _ _) rfl rfl) ?_
    refine sx_cons (sx_expr (own_ok h (.inr (.inl ⟨rfl, rfl⟩)) (lst_pa h m2 (by decide)) i2) (sw (com i2) _ _ _)) ?_
    refine sx_cons (sx_expr (own_ok h (.inr (.inl ⟨rfl, rfl⟩)) (lst_pa h m3 (by decide)) i3) (sw (com i3) _ _ _)) ?_
    refine sx_cons (sx_expr (own_ok h (.inr (.inl ⟨rfl, rfl⟩)) (lst_pa h m4 (by decide)) i4) (sw (com i4) _ _ _)) ?_
    refine sx_cons (sx_expr (own_ok h (.inl ⟨rfl, rfl⟩) (one_pa' h m5) i5) (sw (com i5) _ _ _)) ?_
    refine sx_cons (sx_if cnd (sx_cons (sx_ret r1p) sx_nil) sx_nil) ?_
    exact sx_cons (sx_ret r2p) sx_nil
  · cases q
end
end Lt
namespace Lt
open PySem L2 PySem.Spec PyProof.Rows
def bangN : Str := Str.ofString "!"
def clW (x y : Str) : Bool := decide (y = x) || decide (y = veN)
theorem which_val : ∀ x ∈ whichN, whichF bangN (clW x) [some (.fn bangN), none] [] = .rt (refD x) [.lst (whichN.map fun y => .bl (decide (y = x)))] := by
  intro x hx
  simp only [whichN, wa1, wa2, wa3, wa4, wa5, List.cons_append, List.nil_append, List.mem_cons, List.not_mem_nil, or_false] at hx
  rcases hx with rfl | rfl | rfl | rfl | rfl | rfl | rfl | rfl | rfl | rfl | rfl | rfl | rfl | rfl | rfl | rfl | rfl <;> kernel_rfl
def FrOk (H : Hp) : Prop := ∀ a o us, H a = some (.frz o (.tup us)) → us = [.str (Str.ofString "drawer")] ∨ us = [.str (Str.ofString "gone")]
/-- what the class at C must say -/
structure WhC (K : PySem.W.Frag) (mg : Str → Option Value) (x : Str) (C : Addr) : Prop where
  ec : ExcC K C
  own : ∀ y ∈ whichN, ∃ Cy, mg y = some (.ref Cy) ∧ PySem.W.kitOne K (.ref C) (.ref Cy) = some (decide (y = x))
  ve : PySem.W.kitOne K (.ref C) (.type "ValueError") = some true
def refV (x : Str) : List V := [.str (Str.ofString "refused"), .int (whichN.idxOf x : Nat)]
/-- the promise -/
def spW (K : PySem.W.Frag) (mg : Str → Option Value) : Addr × Obj → Sp := fun p vs H Q _ => vs = [.ref p.1] ∧ FrOk H ∧ ∃ x C, x ∈ whichN ∧ WhC K mg x C ∧ Zc (.ref C) none p.2 ∧ (∃ us, p.2.data = .fields us) ∧
  ∀ (H' : Hp) (t : Addr), (∀ a o, H a = some o → H' a = some o) → FrOk H' → H' t = some (.tup (refV x)) → Q (.ref t) H'
structure WhDef (K : PySem.W.Frag) (a : Addr) (fd : FuncData) : Prop where
  at_ : ∃ (oc : Value) (od : Option Addr) (osl : Array (Option Value)) (name qual : Str) (params : Arguments) (body : List Stmt) (scope : PySem.Scope) (dV kV doc pm cdv ct : Value) (an : Option Addr),
    fd = PySem.W.fnOf name qual params body scope dV kV doc pm an cdv ct ∧ K.lookup a = some ⟨oc, od, .func (PySem.W.fnOf name qual params body scope dV kV doc pm an cdv ct), osl⟩ ∧ PySem.W.codeIn K cdv qual = true ∧ FnScope [eN, ownN] [eN] scope ∧
      (scope.names.lookup eN = some .local ∧ scope.names.lookup ownN = some .local) ∧ whichB scope body = true
  bnd : Binds K fd [eN] []
theorem reps_two {G : AMap} {H : Hp} {w : Wd} {x : Str} {i : Int} {us : List V} (h : Reps G H w [.str x, .int i] us) : us = [.str x, .int i] := by
  obtain ⟨u, r, rfl, h1, u2, r2, rfl, h2, rfl⟩ := h
  rw [show u = V.str x from h1, show u2 = V.int i from h2]
section
variable {Pm : Program} {wd : World} {K : PySem.W.Frag} {mg : Str → Option Value} {base : Heap}
theorem which_fn {a : Addr} {fd : FuncData} (hd : WhDef K a fd) (b1 : mg (Str.ofString "isinstance") = none) (b2 : mg veN = none) : FnE Pm wd K mg base 1 a fd [eN] (spW K mg) := by
  obtain ⟨oc, od, osl, name, qual, params, body, scope, dV, kV, doc, pm, cdv, ct, an, rfl, lk, ci, fs, ⟨sc1, sc2⟩, hq⟩ := hd.at_
  refine fn_ofE lk ci fs (fun p vs H Q E q => by rw [q.1]; rfl) fun A outer s H vs Q E p hot room q => ?_
  obtain ⟨rfl, fr, x, C, hx, wc, hz, hf, hQ⟩ := q
  have cx : WCx (cxE Pm wd K mg base [eN, ownN] qual scope a cdv A outer s H E p) ⟨fun y => if y = bangN then some p.1 else none, wd⟩ NoX scope bangN (clW x) := {
    n := rfl
    sce := rfl
    lo := sc2
    hu := by have := room.un; show (A.deeper _).units + 20 < cLine; omega
    is := fun {y e} m hy => by
      unfold isxB at m
      split at m
      · rename_i f p1 z p2 z2 p3 pos
        simp only [Bool.and_eq_true, decide_eq_true_eq] at m
        obtain ⟨⟨rfl, rfl⟩, rfl, g1, g2⟩ := m
        have gl : ∀ {n : Str}, glB scope n = true → Gl (cxE Pm wd K mg base [eN, ownN] qual scope a cdv A outer s H E p) n := fun {n} g => by
          simp only [glB, decide_eq_true_eq] at g
          exact g
        have vis : Vis (cxE Pm wd K mg base [eN, ownN] qual scope a cdv A outer s H E p).env.scope eN := .inl sc1
        have mem : p ∈ (cxE Pm wd K mg base [eN, ownN] qual scope a cdv A outer s H E p).pn := List.mem_singleton.mpr rfl
        have hne : veN ∉ whichN := by decide +kernel
        by_cases hv : z2 = veN
        · subst hv
          have e1 : clW x veN = true := by simp [clW]
          rw [e1]
          exact sd_isx (cV := .ty "ValueError") (cv := .type "ValueError") mem wc.ec hz hf (fun u r => r) wc.ve (by simp) rfl vis (by decide +kernel) (by decide +kernel) (pe_bltn (gl g2) b2 (by decide +kernel) rfl (by decide +kernel) (by decide +kernel)) (gl g1) b1
        · have hw : z2 ∈ whichN := by
            simp only [List.mem_append, List.mem_cons, List.not_mem_nil, or_false] at hy
            simp only [whichN, List.mem_append, List.mem_cons, List.not_mem_nil, or_false]
            rcases hy with hy | hy | hy
            · exact .inl hy
            · exact .inr hy
            · exact absurd hy hv
          obtain ⟨Cy, m1, k1⟩ := wc.own _ hw
          have e1 : clW x z2 = decide (z2 = x) := by simp [clW, hv]
          rw [e1]
          have hd : (z2 == Str.ofString "__debug__") = false := by
            refine beq_eq_false_iff_ne.mpr fun e => ?_
            rw [e] at hw
            exact absurd hw (by decide +kernel)
          exact sd_isx (cV := .ref Cy) (cv := .ref Cy) mem wc.ec hz hf (fun u r => r) k1 (by simp) rfl vis (by decide +kernel) (by decide +kernel) (pe_glob (gl g2) m1 (v := .ref Cy) rfl hd) (gl g1) b1
      · cases m }
  have hv := which_val x hx
  refine ⟨_, which_ok cx hq, ⟨[], fun _ => False⟩, [some (.fn bangN), none], [], ⟨fun i d e => ?_, Nat.le_refl _⟩, ⟨rfl, List.nodup_nil, fun l b e => by simp at e, fun b z => z.elim, fun b z => z.elim, fr, fun b e => ?_, fun b e => ?_⟩, ?_⟩
  · rcases i with _ | _ | i
    · cases e
      exact ⟨.ref p.1, rfl, p.1, rfl, by simp⟩
    · cases e
    · cases e
  · replace e : (if Str.ofString "DRAWER" = bangN then some p.1 else none) = some b := e
    rw [if_neg (by decide +kernel)] at e; cases e
  · replace e : (if Str.ofString "GONE" = bangN then some p.1 else none) = some b := e
    rw [if_neg (by decide +kernel)] at e; cases e
  · rw [hv]
    rintro w2 v H2 ex st2 ⟨t, us, rfl, rd, rs⟩
    have eu := reps_two rs
    subst eu
    refine hQ H2 t (fun b o e => ex.keep b o e (by simp) (by simp)) st2.fr ?_
    rcases rd with rd | ⟨o, rd⟩
    · exact rd
    · rcases st2.fr _ _ _ rd with z | z <;> cases z
end
/-! ### the statement -/
theorem kept_ext {G : AMap} {H H' : Hp} {w : Wd} {S : Sto} (st : StoR G w S H) (k : ∀ a o, H a = some o → H' a = some o) : Ext H w H' w where
  tup := fun a us e => k a _ e
  frz := fun a o u e => k a _ e
  fz := fun a f => ⟨f, .inl (by
    obtain ⟨o, e⟩ := Option.ne_none_iff_exists'.mp (st.fz a f)
    rw [k a o e, e])⟩
  ph := fun _ _ e => e
  keep := fun a o e _ _ => k a o e
  newP := fun _ m => .inl m
  newF := fun _ m => .inl m
theorem kept_sto {G : AMap} {H H' : Hp} {w : Wd} {S : Sto} (st : StoR G w S H) (k : ∀ a o, H a = some o → H' a = some o) (fr : FrOk H') : StoR G w S H' where
  len := st.len
  nd := st.nd
  ob := fun l a e => by
    obtain ⟨o, h1, h2⟩ := st.ob l a e
    obtain ⟨u, hu⟩ := Option.ne_none_iff_exists'.mp h2.some
    exact ⟨o, h1, h2.mono (kept_ext st k) (by rw [k a u hu, hu])⟩
  ap := st.ap
  fz := fun a f => by
    obtain ⟨o, e⟩ := Option.ne_none_iff_exists'.mp (st.fz a f)
    rw [k a o e]; simp
  fr := fr
  gd := fun a e => by
    obtain ⟨o, q⟩ := st.gd a e
    exact ⟨o, k _ _ q⟩
  gg := fun a e => by
    obtain ⟨o, q⟩ := st.gg a e
    exact ⟨o, k _ _ q⟩
/-- what is known of the refusals -/
structure WhFact (K : PySem.W.Frag) (mg : Str → Option Value) (G : AMap) (es : List Str) : Prop where
  def_ : ∃ a fd, mg (Str.ofString "_law_which") = some (.ref a) ∧ PySem.W.keepIn K (.ref a) = true ∧ WhDef K a fd
  is0 : mg (Str.ofString "isinstance") = none
  ve0 : mg veN = none
  tree : ∃ T, mg (Str.ofString "TreeError") = some (.ref T) ∧ ∀ x, es.contains x = true → ∃ C, G x = some C ∧ x ∈ whichN ∧ WhC K mg x C ∧ PySem.W.exmOne K (.ref C) (.ref T) = some true
theorem sx_tryw {X : Cx} {G : AMap} {W : XK} {es : List Str} {n : Str} {i : Nat} {f : fS} {body : List Stmt} {np p1 p2 p3 p4 p5 pos : Pos} (hs : X.stack = X.env :: X.outer) (hf : X.env.frame = some X.env.locals) (hN : X.N.Nodup) (hi : X.N[i]? = some n) (hl : X.env.scope.names.lookup n = some .local)
    (n1 : (n == Str.ofString "__debug__") = false) (n2 : (n == Str.ofString "__classdict__") = false) (g1 : Gl X (Str.ofString "TreeError")) (g2 : Gl X (Str.ofString "_law_which")) (room : Room 1 X.A) (outs : Outs X W) (wf : WhFact X.K X.mg G es)
    (hb : ∀ (W' : XK) (pn : List (Addr × Obj)) (xe : Value → Shared → Prop), Outs (X.tr pn xe) W' → PassesOwn (model X.prog X.w) X.A X.env xe → PSs (X.tr pn xe) body (tEX G W' f)) :
    PS X (.Try body [.ExceptHandler (some (.Name (Str.ofString "TreeError") np)) (some n) [.Return (some (.Call (.Name (Str.ofString "_law_which") p1) [.Name n p2] [] p3)) p4] p5] [] [] pos) (tEX G W fun σ S => tryO es (f σ S)) := by
  obtain ⟨a0, fd, ma, ka, wdef⟩ := wf.def_
  obtain ⟨T, mT, hx⟩ := wf.tree
  obtain ⟨Wo, tk, _⟩ := outs
  let ts : Addr → Value → Option Addr → TS := fun a cls d D σ H => σ[i]? = some (some (.ref a)) ∧ d = none ∧ FrOk H ∧ ∃ x C, x ∈ whichN ∧ cls = .ref C ∧ WhC X.K X.mg x C ∧
    ∀ (H' : Hp) (t : Addr), (∀ b o, H b = some o → H' b = some o) → FrOk H' → H' t = some (.tup (refV x)) → D.rt (.ref t) H'
  have hsu : ∀ (a : Addr) (oe : Obj) (cls : Value) (d : Option Addr) (pn : List (Addr × Obj)), L2N.Zn cls d oe → (∃ vs, oe.data = .fields vs) → PSs (X.suite a ((a, oe) :: pn)) [.Return (some (.Call (.Name (Str.ofString "_law_which") p1) [.Name n p2] [] p3)) p4] (ts a cls d) := by
    intro a oe cls d pn hz hv
    have F : FnE (X.suite a ((a, oe) :: pn)).prog (X.suite a ((a, oe) :: pn)).w (X.suite a ((a, oe) :: pn)).K (X.suite a ((a, oe) :: pn)).mg (X.suite a ((a, oe) :: pn)).base 1 a0 fd [eN] (spW X.K X.mg) := which_fn wdef wf.is0 wf.ve0
    have hot : L2H.Hot1 (X.suite a ((a, oe) :: pn)).A (a, oe) := by
      obtain ⟨vs, e⟩ := hv
      exact ⟨rfl, vs, e, hz.2.2 vs e⟩
    have call := pe_callE (X := X.suite a ((a, oe) :: pn)) (pos := p3) (q := p1) F (L2H.roomH_of room |> fun r => ⟨r.dp, r.un⟩) hot List.mem_cons_self g2 ma ka wdef.bnd (pa_cons (pe_var (X := X.suite a ((a, oe) :: pn)) (pos := p2) hi (.inl hl) n1 n2) pa_nil (star_of rfl [] _)) (by decide +kernel) rfl rfl
    refine pss_imp (pss_cons (ps_ret call) pss_nil) fun D σ H ⟨e1, e2, fr, x, C, h1, h2, h3, h4⟩ => ?_
    subst e2 h2
    exact ⟨_, e1, rfl, fr, x, C, h1, h3, hz.zc, hv, h4⟩
  refine ps_imp (L2N.ps_try_as (i := i) (ts := ts) (tb := fun W0 => tEX G (fun cls d H => ∀ σ : L2.St, σ.length = X.N.length → W0 cls d σ H) f) hs hf hN hi hl ⟨g1, by decide +kernel, .inl mT⟩ tk (fun W0 pn xe tk2 own => hb _ pn xe ⟨W0, tk2, fun cls d σ H hl h => h σ hl⟩ own) hsu) ?_
  rintro D σ H ⟨w, σD, S, sl, st, q⟩
  refine ⟨w, σD, S, sl, st, ?_⟩
  cases e : f σD S with
  | nx σ' S1 => simp only [e, tryO] at q; exact q
  | rt d S1 => simp only [e, tryO] at q; exact q
  | ct σ' S1 => simp only [e, tryO] at q; exact q
  | bad => simp only [e, tryO] at q; exact q.elim
  | exc x S1 =>
    simp only [e, tryO] at q
    split at q
    · rename_i hc
      intro w2 H2 ex st2 C hC σ2 hl2
      obtain ⟨C', g, hw, wc, em⟩ := hx x hc
      rw [hC] at g
      cases g
      have hil : i < σ2.length := by rw [hl2]; exact (List.getElem?_eq_some_iff.mp hi).1
      refine ⟨true, em, fun _ a ha => ⟨?_, rfl, st2.fr, x, C, hw, rfl, wc, fun H' t k fr ht => ?_⟩, fun z => by cases z⟩
      · rw [List.getElem?_set_self hil]
      · exact q w2 (.ref t) H' (ex.trans (kept_ext st2 k)) (kept_sto st2 k fr) ⟨t, refV x, rfl, .inl ht, Reps.cons rfl (Reps.cons rfl rfl)⟩
    · exact q.elim
end Lt
namespace Lt
open PySem L2 PySem.Spec PyProof.Rows
/-- the pair is never made -/
def parB (sc : PySem.Scope) (x y : Str) (px py : Pos) (a b : Expr) : Bool :=
  ((decide (x ≠ y) && (px.line == py.line)) && (decide (sc.names.lookup x = some .local) && decide (sc.names.lookup y = some .local))) && ((noStar a && noStar b) && (!([a, b].all (foldedForSure 8)) && !([a, b].all (constantsAlone 8))))
theorem par_stores {sc : PySem.Scope} {x y : Str} {px py pt pt2 : Pos} {a b : Expr} {kt k2 : Nat} {env : Env} (h : parB sc x y px py a b = true) (hs : env.scope = sc) (hk : sc.kind = .function) :
    swappedStores [.Tuple [.Name x px, .Name y py] kt pt] (.Tuple [a, b] k2 pt2) env = Pure.pure (some [x, y]) := by
  simp only [parB, Bool.and_eq_true, decide_eq_true_eq, Bool.not_eq_true', beq_iff_eq] at h
  obtain ⟨⟨⟨h1, h2⟩, h3, h4⟩, ⟨h5, h6⟩, h7, h8⟩ := h
  have e1 : env.kindOf x = some .local := by rw [Env.kindOf, hs]; exact h3
  have e2 : env.kindOf y = some .local := by rw [Env.kindOf, hs]; exact h4
  have e3 : env.blockKind = .function := by rw [Env.blockKind, hs, hk]; rfl
  have hx : (x == y) = false := by simpa using h1
  have hy : (y == x) = false := by simpa using Ne.symm h1
  have hd : ([x, y] : List Str).eraseDups = [x, y] := by
    simp [List.eraseDups_cons, Ne.symm h1]
  unfold swappedStores
  dsimp only
  rw [if_neg (by simp [e3])]
  split
  · rename_i hh
    exfalso
    rw [List.any_cons, List.any_cons, List.any_nil] at hh
    simp only [Bool.or_eq_true, Bool.or_false] at hh
    rcases hh with hh | hh
    · cases a <;> first | exact (Bool.false_ne_true hh).elim | exact (Bool.false_ne_true h5).elim
    · cases b <;> first | exact (Bool.false_ne_true hh).elim | exact (Bool.false_ne_true h6).elim
  simp [e1, e2, e3, h2, hd, h7, h8, Expr.pos]
theorem sx_par {X : Cx} {G : AMap} {W : XK} {i j : Nat} {x y : Str} {px py pt pt2 pos : Pos} {a b : Expr} {kt k2 : Nat} {f : Slots → Sto → R (List D)} (hc : X.calm = true) (hN : X.N.Nodup) (hi : X.N[i]? = some x) (hj : X.N[j]? = some y) (hk : X.env.scope.kind = .function)
    (h : parB X.env.scope x y px py a b = true) (ha : PA X [a, b] (tEVs G W f)) : PS X (.Assign [.Tuple [.Name x px, .Name y py] kt pt] (.Tuple [a, b] k2 pt2) pos) (tEX G W fun σ S => match f σ S with
      | .ok ds S1 => (match setAll [i, j] ds σ with
        | some σ' => .nx σ' S1
        | none => .bad)
      | .exc x S1 => .exc x S1
      | .bad => .bad) := by
  have h0 := h
  simp only [parB, Bool.and_eq_true, decide_eq_true_eq] at h0
  obtain ⟨⟨⟨h1, _⟩, h3, h4⟩, _⟩ := h0
  have hij : i ≠ j := fun e => by
    subst e
    rw [hi] at hj
    exact h1 (Option.some.inj hj)
  refine ps_imp (ps_par hc hN hi hj hij h3 h4 ha (par_stores h rfl hk)) fun D σ H ⟨w, σD, S, sl, st, q⟩ => ⟨w, σD, S, sl, st, ?_⟩
  cases e : f σD S with
  | bad => simp only [e] at q; exact q.elim
  | exc x S1 => simp only [e] at q; exact q
  | ok ds S1 =>
    simp only [e] at q
    intro w2 vs H2 ex st2 rs
    cases e2 : setAll [i, j] ds σD with
    | none => rw [e2] at q; exact q.elim
    | some σ' =>
      rw [e2] at q
      match ds, rs, e2 with
      | [d1, d2], ⟨v, r, e3, r1, v2, r2, e4, rr, e5⟩, e2 =>
        subst e5 e4 e3
        cases e2
        exact ⟨v, v2, rfl, q w2 _ H2 ex st2 (((sl.mono ex).set r1).set rr)⟩
      | [], _, e2 => cases e2
      | [_], _, e2 => cases e2
      | _ :: _ :: _ :: _, _, e2 => cases e2
end Lt
namespace Lt
open PySem L2 PySem.Spec PyProof.Rows
def noTup : Expr → Bool
  | .Tuple _ _ _ => false
  | _ => true
/-- a comprehension whose name takes its list at once -/
def swB (sc : PySem.Scope) (y : Str) (py : Pos) : Expr → Bool
  | .ListComp _ _ scope p => decide (sc.names.lookup y = some .local) && ((py.line == p.line) && !(scope.names.any fun z => z.1 == y && (z.2 == .local || z.2 == .cell)))
  | _ => false
/-- a name of the targets is a cell -/
def celB (sc : PySem.Scope) (es : List Expr) : Bool := es.any fun e => match e with
  | .Name x _ => decide (sc.names.lookup x = some .cell)
  | _ => false
/-- this written number -/
def isCi (i : Int) : E → Bool
  | .cst (.int j) => decide (i = j)
  | _ => false
section
variable (N : List Str)
mutual
def matS (sc : PySem.Scope) (st : Stmt) : C → Bool
  | .expr c => match st with
    | .Expr e _ => noComp e && matE N sc e c
    | _ => false
  | .asg t c => match t with
    | .name i => (match st with
      | .Assign [.Name y py] e _ => (decide (N[i]? = some y) && locB sc y) && (matE N sc e c && (noComp e || (match e with
        | .ListComp _ _ _ _ => true
        | _ => false)))
      | _ => false)
    | .names is => (match st with
      | .Assign [.Tuple es _ _] e _ => ((noComp e && (noTup e || celB sc es)) && (namesAt N sc (fun _ => true) es is && matE N sc e c)) || (match es, e, c, is with
        | [.Name x px, .Name y py], .Tuple [a, b] _ _, .tup cs, [i, j] => (parB sc x y px py a b && (decide (N[i]? = some x) && decide (N[j]? = some y))) && matEs N sc [a, b] cs
        | _, _, _, _ => false)
      | _ => false)
    | .star i j => (match st with
      | .Assign [.Tuple [.Name x px, .Starred (.Name y py) _] _ _] e _ => (noComp e && noTup e) && (namesAt N sc (fun _ => true) [.Name x px, .Name y py] [i, j] && matE N sc e c)
      | _ => false)
    | .sub o i => (match st with
      | .Assign [.Subscript a b _] e _ => (noComp e && noSlice b) && (matE N sc e c && (matE N sc a o && matE N sc b i))
      | _ => false)
    | .fld o f => (match st with
      | .Assign [.Attribute a n _] e _ => (decide (n = f) && noComp e) && (matE N sc e c && matE N sc a o)
      | _ => false)
  | .aug t c => match t with
    | .name i => (match st with
      | .AugAssign (.Name y _) .Add e _ => (decide (N[i]? = some y) && locB sc y) && matE N sc e c
      | _ => false)
    | .sub o i => (match st with
      | .AugAssign (.Subscript a b _) .Add e _ => noSlice b && (matE N sc e c && (matE N sc a o && matE N sc b i))
      | _ => false)
    | .fld o f => (match st with
      | .AugAssign (.Attribute a n _) .Add (.Constant (.int i) _ _) _ => decide (n = f) && (isCi i c && matE N sc a o)
      | _ => false)
    | _ => false
  | .ret c => match st with
    | .Return (some e) _ => matE N sc e c
    | _ => false
  | .ifs c a b => match st with
    | .If e x y _ => okT e && (matE N sc e c && (matB sc x a && matB sc y b))
    | _ => false
  | .fors ts it b => match st with
    | .For tg e x [] _ => (enOk it tg && (noSet e && matTg N sc ts tg)) && (matI N sc e it && matB sc x b)
    | _ => false
  | .whl c b => match st with
    | .While e x [] _ => okT e && (matE N sc e c && matB sc x b)
    | _ => false
  | .raise x => match st with
    | .Raise (some (.Call (.Name y _) [] [] _)) none _ => decide (x = y) && (glB sc y && okName y)
    | _ => false
  | .any => true
  | .cont => match st with
    | .Continue _ => true
    | _ => false
  | .pass => match st with
    | .Pass _ => true
    | _ => false
  | .tryw b => match st with
    | .Try body [.ExceptHandler (some (.Name t _)) (some n) [.Return (some (.Call (.Name f _) [.Name n2 _] [] _)) _] _] [] [] _ =>
      ((decide (t = Str.ofString "TreeError") && decide (f = Str.ofString "_law_which")) && (glB sc t && glB sc f)) && ((decide (n2 = n) && (decide (n ∈ N) && (decide (sc.names.lookup n = some .local) && okName n))) && matB sc body b)
    | _ => false
def matB (sc : PySem.Scope) (sts : List Stmt) : Cs → Bool
  | .nil => match sts with
    | [] => true
    | _ => false
  | .cons c cs => match sts with
    | st :: sts => matS sc st c && matB sc sts cs
    | _ => false
end
end
structure CtxS (X : Cx) (G : AMap) (P : Prog) (call : Fun → List D → Sto → O) (k : Nat) (N : List Str) (sc : PySem.Scope) (W : XK) : Prop extends Ctx X G P call k N sc W where
  esc : X.env.scope = sc
  kind : sc.kind = .function
  outs : Outs X W
  own : PassesOwn (model X.prog X.w) X.A X.env X.xe
  ex : ∀ x, P.exc.contains x = true → ExFact X G x
  stk : X.stack = X.env :: X.outer
  frm : X.env.frame = some X.env.locals
  wh : P.whi = true → WhFact X.K X.mg G P.exc
theorem CtxS.tr {X : Cx} {G : AMap} {P : Prog} {call : Fun → List D → Sto → O} {k : Nat} {N : List Str} {sc : PySem.Scope} {W W' : XK} (h : CtxS X G P call k N sc W) {pn : List (Addr × Obj)} {xe : Value → Shared → Prop} (o : Outs (X.tr pn xe) W')
    (p : PassesOwn (model X.prog X.w) X.A X.env xe) : CtxS (X.tr pn xe) G P call k N sc W' where
  n := h.n
  scr := h.scr
  fnc := h.fnc
  nd := h.nd
  calm := h.calm
  room := h.room
  pass := Outs.pass o
  bl := h.bl
  gf := h.gf
  fn := h.fn
  gl := h.gl
  cls := fun c f hf => ⟨(h.cls c f hf).at_⟩
  mth := fun c m F hF => ⟨(h.mth c m F hF).at_⟩
  wo := h.wo
  mkr := fun c F hF => ⟨(h.mkr c F hF).at_⟩
  esc := h.esc
  kind := h.kind
  outs := o
  own := p
  ex := fun x hx => ⟨(h.ex x hx).at_⟩
  stk := h.stk
  frm := h.frm
  wh := h.wh
theorem swap_not {e : Expr} (h : noComp e = true) (t : Option Expr) (l : Nat) (env : Env) : swapsWith e t l env = Pure.pure false := by
  cases e <;> first | rfl | exact absurd h (by simp [noComp])
theorem swap_no {e : Expr} {y : Str} {py : Pos} {l : Nat} {env : Env} (hl : (match e with
        | .ListComp _ _ _ _ => true
        | _ => false) = true) (h : swB env.scope y py e = false) : swapsWith e (some (.Name y py)) l env = Pure.pure false := by
  obtain ⟨elt, gs, scope, p, rfl⟩ : ∃ elt gs scope p, e = .ListComp elt gs scope p := by
    split at hl
    · exact ⟨_, _, _, _, rfl⟩
    · cases hl
  unfold swapsWith
  simp only [Expr.pos]
  simp only [swB] at h
  have : (env.blockKind == ScopeKind.function && env.kindOf y == some NameKind.local && py.line == p.line && !scope.names.any fun x => match x with
              | (n, k) => n == y && (k == NameKind.local || k == NameKind.cell)) = false := by
    by_cases h1 : env.scope.names.lookup y = some .local
    · rw [decide_eq_true h1, Bool.true_and] at h
      rw [Bool.and_assoc]
      have h : ((py.line == p.line) && !(scope.names.any fun x => match x with
              | (n, k) => n == y && (k == NameKind.local || k == NameKind.cell))) = false := h
      rw [h, Bool.and_false]
    · have : (env.kindOf y == some NameKind.local) = false := by
        unfold Env.kindOf
        simpa using h1
      rw [this, Bool.and_false, Bool.false_and, Bool.false_and]
  rw [this]
theorem swap_yes {e : Expr} {y : Str} {py : Pos} {l : Nat} {env : Env} (hk : env.scope.kind = .function) (h : swB env.scope y py e = true) : swapsWith e (some (.Name y py)) l env = Pure.pure true := by
  obtain ⟨elt, gs, scope, p, rfl⟩ : ∃ elt gs scope p, e = .ListComp elt gs scope p := by
    unfold swB at h
    split at h
    · exact ⟨_, _, _, _, rfl⟩
    · cases h
  simp only [swB, Bool.and_eq_true, decide_eq_true_eq, Bool.not_eq_true'] at h
  exact sw_true hk h.1 h.2.1 h.2.2
section
variable {G : AMap} {P : Prog} {call : Fun → List D → Sto → O} {k : Nat} {N : List Str}
variable {X : Cx} {W : XK} {sc : PySem.Scope}
theorem ps_eq {st : Stmt} {f g : fS} (h : PS X st (tEX G W f)) (q : ∀ σ S, g σ S = f σ S) : PS X st (tEX G W g) := by
  have : g = f := by funext σ S; exact q σ S
  rw [this]; exact h
theorem pss_eq {st : List Stmt} {f g : fS} (h : PSs X st (tEX G W f)) (q : ∀ σ S, g σ S = f σ S) : PSs X st (tEX G W g) := by
  have : g = f := by funext σ S; exact q σ S
  rw [this]; exact h
theorem CtxS.loc (h : CtxS X G P call k N sc W) {y : Str} (hy : locB sc y = true) : L2.Loc X.env.scope y ∧ (X.fn y = true ∨ X.env.scope.names.lookup y = some .local) := by
  refine ⟨h.scr.loc hy, ?_⟩
  simp only [locB, Bool.or_eq_true, decide_eq_true_eq] at hy
  rw [h.esc]
  exact hy.symm.imp (fun z => h.fnc y z) id
theorem name_plain (i : Nat) : plainStore fun σ d S => .nx (σ.set i (some d)) S := fun σ d S => ⟨(fun _ _ z => by cases z), (fun _ _ z => by cases z)⟩
theorem star_plain (i j : Nat) : plainStore (starS i j) := fun σ d S => by
  unfold starS
  split
  · split <;> exact ⟨(fun _ _ z => by cases z), (fun _ _ z => by cases z)⟩
  · exact ⟨(fun _ _ z => by cases z), (fun _ _ z => by cases z)⟩
theorem names_plain (is : List Nat) : plainStore fun σ d S => match d with
    | .tup xs => (match setAll is xs σ with
      | some σ' => .nx σ' S
      | none => .bad)
    | _ => .bad := fun σ d S => by
  constructor <;> intro _ _ z <;> dsimp only at z <;> split at z <;> first | (split at z <;> cases z) | cases z
theorem sub_plain {f g : fE} {h : Sto → D → D → D → Option Sto} : plainStore fun σ d S => match (f σ S).bind fun x S1 => (g σ S1).bind fun k S2 => (match h S2 x k d with
      | some S3 => .ok D.non S3
      | none => .bad) with
    | .ok _ S3 => .nx σ S3
    | .exc x S3 => .exc x S3
    | .bad => .bad := fun σ d S => by
  constructor <;> intro _ _ z <;> dsimp only at z <;> split at z <;> cases z
theorem tuple_stores {es : List Expr} {k : Nat} {pos : Pos} {e : Expr} {env : Env} (h : noTup e = true) : swappedStores [.Tuple es k pos] e env = Pure.pure none := by
  cases e <;> first | rfl | exact absurd h (by simp [noTup])
theorem fm_len {α β : Type} {f : α → Option β} : ∀ {l : List α}, (l.filterMap f).length ≤ l.length
  | [] => Nat.le_refl _
  | a :: l => by
    rw [List.filterMap_cons]
    have h0 := fm_len (f := f) (l := l)
    rw [List.length_cons]
    split
    · exact Nat.le_succ_of_le h0
    · rw [List.length_cons]
      exact Nat.succ_le_succ h0
theorem fm_lt {α β : Type} {f : α → Option β} : ∀ {l : List α}, (∃ a ∈ l, f a = none) → (l.filterMap f).length < l.length
  | [], h => by obtain ⟨_, h, _⟩ := h; cases h
  | a :: l, ⟨b, hb, hf⟩ => by
    rw [List.filterMap_cons]
    have h0 := fm_len (f := f) (l := l)
    rcases List.mem_cons.mp hb with e | hb
    · subst e
      rw [hf, List.length_cons]
      exact Nat.lt_succ_of_le h0
    · have h1 := fm_lt ⟨b, hb, hf⟩
      rw [List.length_cons]
      split
      · exact Nat.lt_succ_of_lt h1
      · rw [List.length_cons]
        exact Nat.succ_lt_succ h1
theorem cell_stores {es : List Expr} {k : Nat} {pos : Pos} {e : Expr} {env : Env} (h : celB env.scope es = true) : swappedStores [.Tuple es k pos] e env = Pure.pure none := by
  by_cases h1 : noTup e = true
  · exact tuple_stores h1
  obtain ⟨vs, k2, p2, rfl⟩ : ∃ vs k2 p2, e = .Tuple vs k2 p2 := by
    cases e <;> first | exact ⟨_, _, _, rfl⟩ | exact absurd rfl h1
  obtain ⟨a, ha, hc⟩ := List.any_eq_true.mp h
  unfold swappedStores
  dsimp only
  split
  · rfl
  split
  · rfl
  have hl : (es.filterMap fun
    | .Name id pos => if (env.kindOf id == some NameKind.local && pos.line == ((es.head?.map (·.pos.line)).getD 0)) = true then some id else none
    | _ => none).length < es.length := fm_lt ⟨a, ha, by
      split at hc
      · rename_i x p
        simp only [decide_eq_true_eq] at hc
        simp [Env.kindOf, hc]
      · cases hc⟩
  rw [if_pos]
  simp only [Bool.or_eq_true, bne_iff_ne]
  exact .inl (Nat.ne_of_lt hl)
mutual
theorem ex_ok : ∀ (c : C) {X : Cx} {W : XK} {st : Stmt} (h : CtxS X G P call k N sc W) (m : matS N sc st c = true), PS X st (tEX G W fun σ S => ex P call c σ S)
  | .expr c, X, W, st, h, m => by
    unfold matS at m
    split at m
    · simp only [Bool.and_eq_true] at m
      exact ps_eq (sx_expr (ev_ok c h.toCtx m.2).pe (swap_not m.1 _ _ _)) fun σ S => (by rw [ex] <;> rfl)
    · cases m
  | .asg (.name i) c, X, W, st, h, m => by
    unfold matS at m
    dsimp only at m
    split at m
    · rename_i y py e pos
      simp only [Bool.and_eq_true, Bool.or_eq_true, decide_eq_true_eq] at m
      obtain ⟨⟨h1, h2⟩, h3, h4⟩ := m
      obtain ⟨l1, l2⟩ := h.loc h2
      have hi : X.N[i]? = some y := by rw [h.n]; exact h1
      have hN : X.N.Nodup := by rw [h.n]; exact h.nd
      by_cases hs : swB X.env.scope y py e = true
      · have hsw := swap_yes (l := pos.line) (by rw [h.esc]; exact h.kind) hs
        obtain ⟨elt, gs, scope, p, rfl⟩ : ∃ elt gs scope p, e = .ListComp elt gs scope p := by
          unfold swB at hs
          split at hs
          · exact ⟨_, _, _, _, rfl⟩
          · cases hs
        have hl : X.env.scope.names.lookup y = some .local := by
          simp only [swB, Bool.and_eq_true, decide_eq_true_eq] at hs
          exact hs.1
        cases c with
        | lc mm ts it cond elt2 =>
          unfold matX at h3
          split at h3
          · rename_i y2 tg iter ifs asy scope2 pos2 he
            cases he
            simp only [Bool.and_eq_true, decide_eq_true_eq] at h3
            obtain ⟨⟨h0', rfl, h1', h2'⟩, ⟨h3', h4'⟩, h5, h6, h7⟩ := h3
            have hb : BlkOk X.N X.env.scope scope (ownOf tg ts) := BlkOk.mono' h.scr (by rw [h.n]; exact blkOk_by h4')
            refine ps_eq (sx_lc (m := mm) (f := fun σ S => ev P call σ it S) (fc := fun σ S => evc P call σ cond S) (fe := fun σ S => ev P call σ elt2 S) h.calm hN hi hl hsw (evi_ok it h.toCtx h0' h5) hb h3'
              (fun s H C cl fp => tg_does (X := X.blk s H scope (compEnvC scope cl C X.env) fp) h.calm (by rw [show (X.blk s H scope (compEnvC scope cl C X.env) fp).N = N from h.n]; exact h.nd) scope (h.toCtx.blk scope s H C cl fp).scr (h.toCtx.blk scope s H C cl fp).fnc (by rw [show (X.blk s H scope (compEnvC scope cl C X.env) fp).N = N from h.n]; exact h2'))
              (fun s H C cl fp => evc_ok cond (h.toCtx.blk scope s H C cl fp) h7)
              (fun s H C cl fp => (ev_ok elt2 (h.toCtx.blk scope s H C cl fp) h6).pe) (set_iter h1' X.env)) fun σ S => ?_
            rw [ex, ev] <;> rfl
          · cases h3
        | _ => (unfold matX at h3; cases h3)
      · have hs := Bool.eq_false_iff.mpr hs
        have hsw : swapsWith e (some (.Name y py)) pos.line X.env = Pure.pure false := h4.elim (fun z => swap_not z _ _ _) fun z => swap_no z hs
        exact ps_eq (sx_asg (name_plain i) (ev_ok c h.toCtx h3).pe (sg_one (G := G) (W := W) hN hi l1 l2) hsw (by cases e <;> rfl) rfl) fun σ S => (by rw [ex] <;> rfl)
    · cases m
  | .asg (.names is) c, X, W, st, h, m => by
    unfold matS at m
    dsimp only at m
    split at m
    · rename_i es j py e pos
      simp only [Bool.or_eq_true] at m
      rcases m with m | m
      · simp only [Bool.and_eq_true, Bool.or_eq_true] at m
        obtain ⟨⟨h1, h2⟩, h3, h4⟩ := m
        have hN : X.N.Nodup := by rw [h.n]; exact h.nd
        exact ps_eq (sx_asg (names_plain is) (ev_ok c h.toCtx h4).pe (sg_many (G := G) (W := W) h.calm hN (by rw [h.n]; exact names_mono h.scr h.fnc h3)) (show swapsWith e (some (.Tuple es j py)) pos.line X.env = _ from swap_not h1 _ _ _) (h2.elim tuple_stores fun z => cell_stores (by rw [h.esc]; exact z)) rfl) fun σ S => (by rw [ex] <;> rfl)
      · have hN : X.N.Nodup := by rw [h.n]; exact h.nd
        split at m
        · rename_i x px y py' a b k2 p2 cs i1 j1
          simp only [Bool.and_eq_true, decide_eq_true_eq] at m
          obtain ⟨⟨h1, h2, h3⟩, h4⟩ := m
          refine ps_eq (sx_par (f := fun σ S => evs P call σ cs S) h.calm hN (by rw [h.n]; exact h2) (by rw [h.n]; exact h3) (by rw [h.esc]; exact h.kind) (by rw [h.esc]; exact h1) (evs_ok cs h.toCtx h4)) fun σ S => ?_
          rw [ex, ev]
          cases evs P call σ cs S <;> rfl
        · cases m
    · cases m
  | .asg (.star i j) c, X, W, st, h, m => by
    unfold matS at m
    dsimp only at m
    split at m
    · rename_i x px y py ps k pt e pos
      simp only [Bool.and_eq_true] at m
      obtain ⟨⟨h1, h2⟩, h3, h4⟩ := m
      have hN : X.N.Nodup := by rw [h.n]; exact h.nd
      exact ps_eq (sx_asg (star_plain i j) (ev_ok c h.toCtx h4).pe (sg_star (G := G) (W := W) h.calm hN (by rw [h.n]; exact names_mono h.scr h.fnc h3)) (show swapsWith e (some (.Tuple [.Name x px, .Starred (.Name y py) ps] k pt)) pos.line X.env = _ from swap_not h1 _ _ _) (tuple_stores h2) rfl) fun σ S => (by rw [ex] <;> rfl)
    · cases m
  | .asg (.sub o i) c, X, W, st, h, m => by
    unfold matS at m
    dsimp only at m
    split at m
    · rename_i a b py e pos
      simp only [Bool.and_eq_true] at m
      obtain ⟨⟨h1, h2⟩, h3, h4, h5⟩ := m
      exact ps_eq (sx_asg (sub_plain (f := fun σ S => ev P call σ o S) (g := fun σ S => ev P call σ i S) (h := subSet)) (ev_ok c h.toCtx h3).pe (sg_sub (subSet_ok (G := G) h.hu) (ev_ok o h.toCtx h4).pe (ev_ok i h.toCtx h5).pe (by intro v; cases b <;> first | rfl | exact absurd h2 (by simp [noSlice]))) (show swapsWith e (some (.Subscript a b py)) pos.line X.env = _ from swap_not h1 _ _ _) (by cases e <;> rfl) rfl) fun σ S => (by rw [ex] <;> rfl)
    · cases m
  | .asg (.fld o f) c, X, W, st, h, m => by
    unfold matS at m
    dsimp only at m
    split at m
    · rename_i a n py e pos
      simp only [Bool.and_eq_true, decide_eq_true_eq] at m
      obtain ⟨⟨rfl, h1⟩, h2, h3⟩ := m
      refine ps_eq (sx_fld (fun c hc => h.cls c _ hc) (ev_ok o h.toCtx h3).pe (ev_ok c h.toCtx h2).pe (swap_not h1 _ _ _)) fun σ S => ?_
      rw [ex]
      cases ev P call σ c S <;> rfl
    · cases m
  | .aug (.name i) c, X, W, st, h, m => by
    unfold matS at m
    dsimp only at m
    split at m
    · rename_i y py e pos
      simp only [Bool.and_eq_true, decide_eq_true_eq] at m
      obtain ⟨⟨h1, h2⟩, h3⟩ := m
      obtain ⟨l1, l2⟩ := h.loc h2
      have hi : X.N[i]? = some y := by rw [h.n]; exact h1
      have hN : X.N.Nodup := by rw [h.n]; exact h.nd
      exact ps_eq (sx_augN hN hi l1 l2 (ev_ok c h.toCtx h3).pe) fun σ S => (by simp only [ex, ev] <;> rfl)
    · cases m
  | .aug (.sub o i) c, X, W, st, h, m => by
    unfold matS at m
    dsimp only at m
    split at m
    · rename_i a b py e pos
      simp only [Bool.and_eq_true] at m
      obtain ⟨h2, h3, h4, h5⟩ := m
      exact ps_eq (sx_augS (subSet_ok (G := G) h.hu) (ev_ok o h.toCtx h4).pe (ev_ok i h.toCtx h5).pe (ev_ok c h.toCtx h3).pe (by intro v1 v2 v3; cases b <;> first | rfl | exact absurd h2 (by simp [noSlice]))) fun σ S => (by rw [ex] <;> rfl)
    · cases m
  | .aug (.star _ _) c, X, W, st, h, m => by
    unfold matS at m
    cases m
  | .aug (.names _) c, X, W, st, h, m => by
    unfold matS at m
    cases m
  | .aug (.fld o f) c, X, W, st, h, m => by
    unfold matS at m
    dsimp only at m
    split at m
    · rename_i a n py i j p pos
      simp only [Bool.and_eq_true, decide_eq_true_eq] at m
      obtain ⟨rfl, h1, h2⟩ := m
      obtain rfl : c = .cst (.int i) := by
        unfold isCi at h1
        split at h1
        · simp only [decide_eq_true_eq] at h1
          rw [h1]
        · cases h1
      exact ps_eq (sx_fldaug (fun c hc => h.cls c _ hc) (ev_ok o h.toCtx h2).pe pe_int) fun σ S => (by simp only [ex, ev] <;> rfl)
    · cases m
  | .ret c, X, W, st, h, m => by
    unfold matS at m
    split at m
    · exact ps_eq (sx_ret (ev_ok c h.toCtx m).pe) fun σ S => (by rw [ex] <;> rfl)
    · cases m
  | .ifs c a b, X, W, st, h, m => by
    unfold matS at m
    split at m
    · simp only [Bool.and_eq_true] at m
      obtain ⟨h1, h2, h3, h4⟩ := m
      exact ps_eq (sx_if ((ev_ok c h.toCtx h2).pt h1) (exs_ok a h h3) (exs_ok b h h4)) fun σ S => (by rw [ex] <;> rfl)
    · cases m
  | .fors ts it b, X, W, st, h, m => by
    unfold matS at m
    split at m
    · simp only [Bool.and_eq_true] at m
      obtain ⟨⟨h0, h1, h2⟩, h3, h4⟩ := m
      have hN : X.N.Nodup := by rw [h.n]; exact h.nd
      exact ps_eq (sx_for h.calm h.own (evi_ok it h.toCtx h0 h3) (tg_does h.calm hN sc h.scr h.fnc (by rw [h.n]; exact h2)) (exs_ok b h h4) (set_iter h1 X.env)) fun σ S => (by rw [ex] <;> rfl)
    · cases m
  | .whl c b, X, W, st, h, m => by
    unfold matS at m
    split at m
    · simp only [Bool.and_eq_true] at m
      obtain ⟨h1, h2, h3⟩ := m
      exact ps_eq (sx_while 64 h.own ((ev_ok c h.toCtx h2).pt h1) (exs_ok b h h3)) fun σ S => (by rw [ex] <;> rfl)
    · cases m
  | .raise x, X, W, st, h, m => by
    unfold matS at m
    split at m
    · simp only [Bool.and_eq_true, decide_eq_true_eq] at m
      obtain ⟨rfl, h1, h2⟩ := m
      exact ps_eq (sx_raise (es := P.exc) h.calm h.outs (h.ex _) (h.Gl h1) (okN h2).1) fun σ S => (by rw [ex] <;> rfl)
    · cases m
  | .any, X, W, st, h, m => ps_imp ps_never fun D σ H ⟨w, σD, S, sl, st, q⟩ => by
      simp only [ex] at q
      exact q
  | .cont, X, W, st, h, m => by
    unfold matS at m
    split at m
    · exact ps_eq sx_cont fun σ S => (by rw [ex] <;> rfl)
    · cases m
  | .pass, X, W, st, h, m => by
    unfold matS at m
    split at m
    · exact ps_eq sx_pass fun σ S => (by rw [ex] <;> rfl)
    · cases m
  | .tryw b, X, W, st, h, m => by
    unfold matS at m
    split at m
    · simp only [Bool.and_eq_true, decide_eq_true_eq] at m
      obtain ⟨⟨⟨rfl, rfl⟩, g1, g2⟩, ⟨rfl, h1, h2, h3⟩, h4⟩ := m
      by_cases hw : P.whi = true
      · obtain ⟨i, hi⟩ := List.mem_iff_getElem?.mp h1
        have hN : X.N.Nodup := by rw [h.n]; exact h.nd
        exact ps_eq (sx_tryw (es := P.exc) (f := fun σ S => exs P call b σ S) h.stk h.frm hN (by rw [h.n]; exact hi) (by rw [h.esc]; exact h2) (okN h3).1 (okN h3).2.1 (h.Gl g1) (h.Gl g2) (h.room.mono (by omega)) h.outs (h.wh hw) fun W' pn xe o p => exs_ok b (h.tr (pn := pn) (xe := xe) (W' := W') o p) h4) fun σ S => by rw [ex, if_pos hw]
      · exact ps_imp ps_never fun D σ H ⟨w, σD, S, sl, st, q⟩ => by
          simp only [ex, if_neg hw] at q
          exact q
    · cases m
theorem exs_ok : ∀ (cs : Cs) {X : Cx} {W : XK} {sts : List Stmt} (h : CtxS X G P call k N sc W) (m : matB N sc sts cs = true), PSs X sts (tEX G W fun σ S => exs P call cs σ S)
  | .nil, X, W, sts, h, m => by
    unfold matB at m
    split at m
    · exact pss_eq sx_nil fun σ S => (by rw [exs] <;> rfl)
    · cases m
  | .cons c cs, X, W, sts, h, m => by
    unfold matB at m
    split at m
    · simp only [Bool.and_eq_true] at m
      exact pss_eq (sx_cons (ex_ok c h m.1) (exs_ok cs h m.2)) fun σ S => (by rw [exs] <;> rfl)
    · cases m
end
end
end Lt
namespace Lt
open PySem L2 PySem.Spec PyProof.Rows
section
variable (Pm : Program) (wd : World) (K : PySem.W.Frag) (mg : Str → Option Value) (base : Heap) (G : AMap) (P : Prog)
/-- a def of the program, and the term that it is like -/
structure DefOk (a : Addr) (F : Fun) (fd : FuncData) : Prop where
  con : (F.dfl.all isC) = true
  len : F.pn.length = F.np
  at_ : ∃ (oc : Value) (od : Option Addr) (osl : Array (Option Value)) (name qual : Str) (params : Arguments) (body : List Stmt) (scope : PySem.Scope) (dV kV doc pm cdv ct : Value) (an : Option Addr) (N : List Str),
    fd = PySem.W.fnOf name qual params body scope dV kV doc pm an cdv ct ∧ K.lookup a = some ⟨oc, od, .func (PySem.W.fnOf name qual params body scope dV kV doc pm an cdv ct), osl⟩ ∧ PySem.W.codeIn K cdv qual = true ∧ FnScope N F.pn scope ∧ N.length = F.ns ∧ matB N scope body F.body = true ∧
      (∀ n, n ≤ F.dfl.length → ∃ ds, Binds K (PySem.W.fnOf name qual params body scope dV kV doc pm an cdv ct) F.pn ds ∧ Vals ((F.dfl.drop n).map constV) ds) ∧
      (F.dfl = [] → ∀ (s : Shared) (us : List Value), us.length = F.pn.length → BindsTo s (PySem.W.fnOf name qual params body scope dV kV doc pm an cdv ct) { pos := us } (F.pn.zip us))
/-- a method -/
structure MDefOk (a : Addr) (F : Fun) (fd : FuncData) : Prop where
  con : (F.dfl.all isC) = true
  len : F.pn.length = F.np
  at_ : ∃ (oc : Value) (od : Option Addr) (osl : Array (Option Value)) (name qual : Str) (params : Arguments) (body : List Stmt) (scope : PySem.Scope) (dV kV doc pm cdv ct : Value) (an : Option Addr) (N : List Str),
    fd = PySem.W.fnOf name qual params body scope dV kV doc pm an cdv ct ∧ K.lookup a = some ⟨oc, od, .func (PySem.W.fnOf name qual params body scope dV kV doc pm an cdv ct), osl⟩ ∧ PySem.W.codeIn K cdv qual = true ∧ FnScope N F.pn scope ∧ N.length = F.ns ∧ matB N scope body F.body = true
  pos : F.kwo = none → ∀ n, n ≤ F.dfl.length → ∃ ds, Binds K fd F.pn ds ∧ Vals ((F.dfl.drop n).map constV) ds
  kw : ∀ x, F.kwo = some x → F.dfl = [] ∧ ∀ (s : Shared) (us : List Value) (w : Value), K.In s.heap → us.length + 1 = F.np → BindsTo s fd ⟨us, [(x, w)]⟩ (F.pn.zip (us ++ [w]))
structure ProgOk : Prop where
  cls : ∀ c f, (P.flds c).contains f = true → ∃ C, G c = some C ∧ Cls K C ∧ ∀ f, (P.flds c).contains f = true → NoAttr K C f
  mth : ∀ c m F, P.meth c m = some F → ∃ C a fd, G c = some C ∧ Cls K C ∧ Meth K C m a ∧ MDefOk K a F fd
  mkr : ∀ c F, P.meth c (Str.ofString "__init__") = some F → ∃ C a fd, G c = some C ∧ Mk K C a ∧ MDefOk K a F fd
  wh : P.whi = true → WhFact K mg G P.exc
  bl : ∀ x, blts.contains x = true → mg x = none
  gf : ∀ x a, G x = some a → mg x = some (.ref a)
  fn : ∀ x F, P.fn x = some F → ∃ a fd, G x = some a ∧ PySem.W.keepIn K (.ref a) = true ∧ DefOk K a F fd
  gl : ∀ x d, P.glb x = some d → ∃ v u, mg x = some u ∧ RelV v u ∧ ∀ H w S, StoR G w S H → Rep G H w d v
  ex : ∀ x, P.exc.contains x = true → ∃ C, G x = some C ∧ mg x = some (.ref C) ∧ PySem.W.excIn K C [.type "ValueError", .type "Exception", .type "BaseException", .type "object"] "ValueError.__new__" = true ∧ PySem.W.keepIn K (.ref C) = true ∧ PySem.W.subIn K (.ref C) (.type "BaseException") = some true ∧ PySem.W.typeIn K (.ref C) = some (.type "type")
end
section
variable {Pm : Program} {wd : World} {K : PySem.W.Frag} {mg : Str → Option Value} {base : Heap} {G : AMap} {P : Prog}
theorem start_ok {H : Hp} {w : Wd} {F : Fun} {N : List Str} {ds : List D} {vs : List V} (hn : N.length = F.ns) (hl : vs.length = F.np) (r : Reps G H w ds vs) : SlR G H w (start F ds) (L2.start N vs) := by
  have hd : ds.length = F.np := by rw [← Reps.length r]; exact hl
  refine ⟨fun i d e => ?_, ?_⟩
  · unfold Lt.start at e
    unfold L2.start
    by_cases hi : i < ds.length
    · rw [List.getElem?_append_left (by rw [List.length_map]; exact hi), List.getElem?_map] at e
      obtain ⟨x, hx, h2⟩ := Option.map_eq_some_iff.mp e
      obtain rfl : x = d := Option.some.inj h2
      obtain ⟨v, hv, rv⟩ := Reps.get r hx
      refine ⟨v, ?_, rv⟩
      rw [List.getElem?_append_left (by rw [List.length_map, Reps.length r]; exact hi), List.getElem?_map, hv]
      rfl
    · rw [List.getElem?_append_right (by rw [List.length_map]; omega)] at e
      rw [List.getElem?_replicate] at e
      split at e <;> cases e
  · unfold Lt.start L2.start
    rw [List.length_append, List.length_append, List.length_map, List.length_map, List.length_replicate, List.length_replicate, Reps.length r, hd, hn]
    exact Nat.le_refl _
theorem mfact {k : Nat} {a : Addr} {F : Fun} {fd : FuncData} {run : List D → Sto → O} (h : MDefOk K a F fd) (ok : FnOk Pm wd K mg base (L2N.CX Pm wd) k a fd F.pn (spF G F.np run)) : MFact Pm wd K mg base G k a F fd run :=
  ⟨h.con, h.len, ok, h.pos, h.kw⟩
/-- a body, to a depth of n -/
theorem run_all (hw : G.wo = wd) (h : ProgOk K mg G P) : ∀ (n : Nat) (a : Addr) (F : Fun) (oc : Value) (od : Option Addr) (osl : Array (Option Value)) (name qual : Str) (params : Arguments) (body : List Stmt) (scope : PySem.Scope) (dV kV doc pm cdv ct : Value) (an : Option Addr) (N : List Str), F.pn.length = F.np →
    K.lookup a = some ⟨oc, od, .func (PySem.W.fnOf name qual params body scope dV kV doc pm an cdv ct), osl⟩ → PySem.W.codeIn K cdv qual = true → FnScope N F.pn scope → N.length = F.ns → matB N scope body F.body = true →
    FnOk Pm wd K mg base (L2N.CX Pm wd) (2 * n) a (PySem.W.fnOf name qual params body scope dV kV doc pm an cdv ct) F.pn (spF G F.np (callN P n F)) := by
  intro n
  induction n with
  | zero =>
    intro a F oc od osl name qual params body scope dV kV doc pm cdv ct an N hl lk hc fs hN hm
    refine ⟨fun vs H Q E q => by rw [hl]; exact q.1, fun A outer s H args us vs Q E _ _ _ _ q => ?_⟩
    obtain ⟨_, w, ds, S, _, _, q⟩ := q
    exact q.elim
  | succ n ih =>
    intro a F oc od osl name qual params body scope dV kV doc pm cdv ct an N hlen lk hc fs hN hm
    have im : ∀ (a : Addr) (F : Fun) (fd : FuncData), MDefOk K a F fd → MFact Pm wd K mg base G (2 * n) a F fd (callN P n F) := fun a F fd hd => by
      obtain ⟨oc, od, osl, name, qual, params, body, scope, dV, kV, doc, pm, cdv, ct, an, N, rfl, lk, hc, fs, hN, hm⟩ := hd.at_
      exact mfact hd (ih a F oc od osl name qual params body scope dV kV doc pm cdv ct an N hd.len lk hc fs hN hm)
    refine fn_of (CX := L2N.CX Pm wd) (k := 2 * n + 1) lk hc fs (fun vs H Q E q => by rw [hlen]; exact q.1) fun A outer s H vs Q E hr q => ?_
    obtain ⟨hl, w, ds, S, st, rs, q⟩ := q
    have cx : CtxS (cxOf (L2N.CX Pm wd) Pm wd K mg base N qual scope a cdv A outer s H E) G P (callN P n) (2 * n) N scope E := {
      n := rfl
      scr := fun x => .inl rfl
      fnc := fun _ _ => rfl
      nd := fs.nd
      calm := rfl
      room := hr
      pass := Outs.pass ⟨fun cls d _ H => E cls d H, L2N.takes_of rfl rfl rfl rfl, fun _ _ _ _ _ z => z⟩
      bl := h.bl
      gf := h.gf
      fn := fun x F hx => by
        obtain ⟨a, fd, g1, g2, g3⟩ := h.fn x F hx
        obtain ⟨oc, od, osl, name, qual, params, body, scope, dV, kV, doc, pm, cdv, ct, an, N, rfl, lk, hc, fs, hN, hm, hb⟩ := g3.at_
        exact ⟨a, _, g1, g2, g3.con, g3.len, ih a F oc od osl name qual params body scope dV kV doc pm cdv ct an N g3.len lk hc fs hN hm, hb⟩
      gl := h.gl
      cls := fun c f hf => ⟨h.cls c f hf⟩
      mth := fun c m F hF => by
        obtain ⟨C, a, fd, g1, g2, g3, g4⟩ := h.mth c m F hF
        exact ⟨C, a, fd, g1, g2, g3, im a F fd g4⟩
      mkr := fun c F hF => by
        obtain ⟨C, a, fd, g1, g2, g4⟩ := h.mkr c F hF
        exact ⟨C, a, fd, g1, g2, im a F fd g4⟩
      wo := hw
      esc := rfl
      kind := fs.kind
      outs := ⟨fun cls d _ H => E cls d H, L2N.takes_of rfl rfl rfl rfl, fun _ _ _ _ _ z => z⟩
      own := passes_of rfl
      stk := rfl
      frm := rfl
      wh := h.wh
      ex := fun x hx => by
        obtain ⟨C, g1, g2, g3, g4, g5, g6⟩ := h.ex x hx
        exact ⟨C, _, g1, g2, g3, rfl, g4, raises_own g5 g6⟩ }
    refine ⟨_, exs_ok F.body cx hm, w, Lt.start F ds, S, start_ok hN hl rs, st, ?_⟩
    exact q
/-- the functions, to a depth of n -/
theorem fn_all (hw : G.wo = wd) (h : ProgOk K mg G P) (n : Nat) (a : Addr) (F : Fun) (fd : FuncData) (hd : DefOk K a F fd) : FnFact Pm wd K mg base G (2 * n) a F fd (callN P n F) := by
  obtain ⟨oc, od, osl, name, qual, params, body, scope, dV, kV, doc, pm, cdv, ct, an, N, rfl, lk, hc, fs, hN, hm, hb⟩ := hd.at_
  exact ⟨hd.con, hd.len, run_all hw h n a F oc od osl name qual params body scope dV kV doc pm cdv ct an N hd.len lk hc fs hN hm, hb⟩
end
end Lt
namespace Lt
open PySem L2 PySem.Spec PyProof.Rows
def isLstC : Value → Bool
  | .type n => n == "list"
  | _ => false
/-- what is kept of the heap at the head's end: no lists -/
def keptK (g : Addr → Option Obj) (as : List Addr) : PySem.W.Frag := (He.frG g as).filter fun p => !isLstC p.2.cls
def NoL (K : PySem.W.Frag) : Prop := ∀ a o, K.lookup a = some o → o.cls ≠ .type "list"
theorem mem_lookup {K : PySem.W.Frag} {a : Addr} {o : Obj} (h : K.lookup a = some o) : (a, o) ∈ K := by
  induction K with
  | nil => cases h
  | cons p K ih =>
    obtain ⟨b, u⟩ := p
    rw [List.lookup_cons] at h
    split at h
    · rename_i e
      have e : a = b := by simpa using e
      subst e
      cases h
      exact List.mem_cons_self
    · exact List.mem_cons_of_mem _ (ih h)
theorem kept_in {h : Heap} {as : List Addr} : (keptK h.get? as).In h := by
  intro a o q
  have m := (List.mem_filter.mp (mem_lookup q)).1
  obtain ⟨b, _, e⟩ := List.mem_filterMap.mp m
  obtain ⟨u, hu, e2⟩ := Option.map_eq_some_iff.mp e
  cases e2
  exact hu
theorem kept_noL {g : Addr → Option Obj} {as : List Addr} : NoL (keptK g as) := by
  intro a o q z
  have m := (List.mem_filter.mp (mem_lookup q)).2
  rw [z] at m
  simp [isLstC] at m
def hookL (n : Nat) (fa : List He.Fa) (fn : List He.DefD) : PySem.W.Hook where
  α := He.AlD
  obs := fun s => He.obsD fa fn (keptK s.heap.get? (He.asD s.heap.get? n))
  val := fun _ => He.valD fn
  says := fun _ h => ∃ K : PySem.W.Frag, K.In h ∧ NoL K ∧ He.SaysD fa fn K
  of := fun w s e => ⟨_, kept_in, kept_noL, e⟩
  keeps := fun w h h' ⟨K, k1, k2, k3⟩ k => ⟨K, fun a o q => k a o (k1 a o q), k2, k3⟩
def obL (n : Nat) (fa : List He.Fa) (fn : List He.DefD) (s : PySem.W.SharedT) : He.AlD := He.obsD fa fn (keptK (HandSHeadRun.getT s) (He.asD (HandSHeadRun.getT s) n))
theorem obL_eq (n : Nat) (fa : List He.Fa) (fn : List He.DefD) (s : PySem.W.SharedT) : obL n fa fn s = (hookL n fa fn).obs s.abs := by
  have : HandSHeadRun.getT s = s.abs.heap.get? := funext (HandSHeadRun.getT_eq s)
  unfold obL
  rw [this]
  rfl
theorem sto_law {G : AMap} {H : Hp} {a : Addr} {us : List V} (ho : Only H) (h : Rd H a (.lst us)) (gd : G (Str.ofString "DRAWER") = none) (gg : G (Str.ofString "GONE") = none) : StoR G ⟨[], fun b => b = a⟩ [] H where
  len := rfl
  nd := List.nodup_nil
  ob := fun l b e => by simp at e
  ap := fun b _ m => by cases m
  fz := fun b e => by
    subst e
    rcases h with h | ⟨o, h⟩ <;> (rw [h]; simp)
  fr := fun b o us e => by
    rcases ho b with z | ⟨o', xs, z⟩ <;> rw [z] at e <;> cases e
  gd := fun b e => by rw [gd] at e; cases e
  gg := fun b e => by rw [gg] at e; cases e
theorem reps_ints {G : AMap} {H : Hp} {w : Wd} : ∀ ns : List Int, Reps G H w (ns.map D.int) (ns.map V.int)
  | [] => rfl
  | n :: ns => Reps.cons rfl (reps_ints ns)
/-- a law that uses no tuple of its modules' -/
theorem law_sp {G : AMap} {P : Prog} {n : Nat} {F : Fun} {K : PySem.W.Frag} (hk : NoL K) (hnp : F.np = 1) (gd : G (Str.ofString "DRAWER") = none) (gg : G (Str.ofString "GONE") = none) (ns : List Int) (he : ∃ S, callN P n F [.vl (ns.map D.int)] [] = .rt (.bl true) S)
    (H : Hp) (a : Addr) (ho : Only H) (h : SqL K H a (ns.map V.int)) : spF G F.np (callN P n F) [V.ref a] H (fun v _ => v = V.bl true) fun _ _ _ => False := by
  have rd : Rd H a (.lst (ns.map V.int)) := by
    rcases h with h | ⟨o, its, m, lk, hc, _⟩
    · exact h
    · exact absurd hc (hk a o lk)
  obtain ⟨S, he⟩ := he
  refine ⟨by rw [hnp]; rfl, ⟨[], fun b => b = a⟩, [.vl (ns.map D.int)], [], sto_law ho rd gd gg, ⟨.ref a, [], rfl, ⟨a, _, rfl, rfl, rd, reps_ints ns⟩, rfl⟩, ?_⟩
  rw [he]
  intro w2 v H2 ex st r
  exact r
/-- whatever the world is -/
def CXA (Pm : Program) : CXT := fun outer H s E e s' => ∃ w : World, L2N.CX Pm w outer H s E e s'
theorem fn_anyW {Pm : Program} {w : World} {K : PySem.W.Frag} {mg : Str → Option Value} {base : Heap} {k : Nat} {f : Addr} {fd : FuncData} {ps : List Str} {sp : Sp}
    (h : FnOk Pm w K mg base (L2N.CX Pm w) k f fd ps sp) : FnOk Pm w K mg base (CXA Pm) k f fd ps sp :=
  ⟨h.len, fun A outer s H args us vs Q E hr e0 hb hv q => codeAny_mono (h.run A outer s H args us vs Q E hr e0 hb hv q) fun r s' z => by
    cases r with
    | error e => exact ⟨w, z⟩
    | ok f => cases f <;> exact z⟩
/-- a law without tuples of its modules': by its head's facts and the evaluator's word -/
theorem law_walk {l : PySem.W.OpenLaw} {m n : Nat} {q : Program} {loose : List Str} {XP : (Str → Option Value) → Heap → Prop} {lev : Nat} {fa : List He.Fa} {fn : List He.DefD} {d : DefRec} {x : Str} {P : Prog} {F : Fun} {Gf : PySem.W.Frag → World → AMap}
    (hn : l.most = some m) (hm : m ≤ sizeLine) (hdf : d.params.defaults = []) (hr : Room (2 * n) callerA)
    (hK : ∀ (K : PySem.W.Frag) (mg : Str → Option Value) (h : Heap), He.SaysD fa fn K → K.In h → h.Ns mainGlobals mg → ∀ w, ProgOk K mg (Gf K w) P)
    (hF : P.fn d.name = some F) (hpn : F.pn = [x]) (hdl : F.dfl = []) (hG : ∀ K w, Gf K w (Str.ofString "DRAWER") = none ∧ Gf K w (Str.ofString "GONE") = none) (hwo : ∀ K w, (Gf K w).wo = w)
    (he : ∀ ns : List Int, ns.length ≤ m → ∃ S, callN P n F [.vl (ns.map D.int)] [] = .rt (.bl true) S) :
    PySem.W.WalkO q loose XP (hookL lev fa fn).says l.row.toRowW d [] fun f vs => call f vs := by
  refine walk_ofE (CX := CXA l.prog) (x := x) hn hm hdf hr ?_ ?_
  · rintro w mg a h ⟨K, k1, k2, k3⟩ hns hmg
    have ok := hK K mg h k3 k1 hns w
    obtain ⟨b, fd, gb, _, hd⟩ := ok.fn _ F hF
    have eb : a = b := by
      have := ok.gf _ b gb
      rw [hmg] at this
      cases this; rfl
    subst eb
    have ff : ∀ base, FnFact l.prog w K mg base (Gf K w) (2 * n) a F fd (callN P n F) := fun base => fn_all (hwo K w) ok n a F fd hd
    obtain ⟨h1, _, h2⟩ := (ff h).ok
    have h2 := h2 hdl
    rw [hpn] at h2
    refine ⟨K, fd, spF (Gf K w) F.np (callN P n F), k1, fun s u => h2 s [u] rfl, fun H b ns hl ho hs => law_sp k2 (by rw [← (ff h).len, hpn]; rfl) (hG K w).1 (hG K w).2 ns (he ns hl) H b ho hs, fun base kb nb => ?_⟩
    have := (ff base).ok.1
    rw [hpn] at this
    exact fn_anyW this
  · rintro H s e s' ⟨w, a, B, H', cls, d, h1, h2, h3, h4, h5, h6, h7, h8⟩
    exact h8
/-! ### a program's facts -/
def scB (N pn : List Str) (sc : PySem.Scope) : Bool := (match sc.kind with
    | .function => true
    | _ => false) && (!sc.isCoroutine && (!sc.isGenerator && (decide N.Nodup && (decide (N.take pn.length = pn) && ((pn.all fun x => locB sc x) && sc.names.all fun y => match y.2 with
      | .free => false
      | _ => true)))))
theorem scope_of {N pn : List Str} {sc : PySem.Scope} (h : scB N pn sc = true) : FnScope N pn sc := by
  simp only [scB, Bool.and_eq_true, Bool.not_eq_true', decide_eq_true_eq, List.all_eq_true] at h
  obtain ⟨h1, h2, h3, h4, h5, h6, h7⟩ := h
  refine ⟨?_, h2, h3, h4, h5, fun x hx => ?_, fun y hy z => ?_⟩
  · split at h1
    · assumption
    · cases h1
  · have := h6 x hx
    simpa [locB] using this
  · have := h7 y hy
    rw [z] at this
    cases this
def defB (d : He.DefD) (F : Fun) (N : List Str) : Bool := matB N d.scope d.body F.body && (scB N F.pn d.scope && (decide (N.length = F.ns) && (decide (F.pn.length = F.np) && (F.dfl.isEmpty && d.dfl.isEmpty))))
theorem def_of {K : PySem.W.Frag} {fa : List He.Fa} {fn : List He.DefD} (hs : He.SaysD fa fn K) (i : Nat) {d : He.DefD} (hi : fn[i]? = some d) {F : Fun} (N : List Str) (h : defB d F N = true)
    (hb : ∀ (kV doc pm : Value) (an : Option Addr) (cdv ct : Value) (us : List Value), us.length = F.pn.length → bindArgs (PySem.W.fnOf d.name d.qual d.params d.body d.scope .none kV doc pm an cdv ct) { pos := us } = Pure.pure (F.pn.zip us)) :
    ∃ fd, PySem.W.keepIn K (.ref (He.fAd K d.at_)) = true ∧ DefOk K (He.fAd K d.at_) F fd := by
  simp only [defB, Bool.and_eq_true, decide_eq_true_eq, List.isEmpty_iff] at h
  obtain ⟨h1, h2, h3, h4, h5, h6⟩ := h
  obtain ⟨fd, D⟩ := hs.def_ i hi
  have D' : FunD K d.name d.qual d.params d.body d.scope [] (He.DefD.kws K d) (He.fAd K d.at_) fd := by
    have e : He.DefD.dvs K d = [] := by
      unfold He.DefD.dvs
      rw [h6]; rfl
    rw [e] at D
    exact D
  have b1 := D'.bindsN (ps := F.pn) hb
  have b2 := D'.bindsA (ps := F.pn) hb
  obtain ⟨oc, od, dV, kV, doc, pm, an, cdv, ct, osl, e, lk, hc, _, _⟩ := D'.ex
  refine ⟨fd, D'.kp, by rw [h5]; rfl, h4, ⟨oc, od, osl, d.name, d.qual, d.params, d.body, d.scope, dV, kV, doc, pm, cdv, ct, an, N, e, e ▸ lk, hc, scope_of h2, h3, h1, fun n hn => ?_, fun _ => e ▸ b2⟩⟩
  rw [h5] at hn ⊢
  refine ⟨[], e ▸ b1, ?_⟩
  rw [List.drop_nil]
  exact .nil
/-! ### methods -/
def mdefB (d : He.DefD) (F : Fun) (N : List Str) : Bool := matB N d.scope d.body F.body && (scB N F.pn d.scope && (decide (N.length = F.ns) && decide (F.pn.length = F.np)))
theorem mdef_of {K : PySem.W.Frag} {d : He.DefD} {fd : FuncData} {F : Fun} {N : List Str} (D : FunD K d.name d.qual d.params d.body d.scope (d.dvs K) (d.kws K) (He.fAd K d.at_) fd) (h : mdefB d F N = true) (con : (F.dfl.all isC) = true)
    (pos : F.kwo = none → ∀ n, n ≤ F.dfl.length → ∃ ds, Binds K fd F.pn ds ∧ Vals ((F.dfl.drop n).map constV) ds) (kw : ∀ x, F.kwo = some x → F.dfl = [] ∧ ∀ (s : Shared) (us : List Value) (w : Value), K.In s.heap → us.length + 1 = F.np → BindsTo s fd ⟨us, [(x, w)]⟩ (F.pn.zip (us ++ [w]))) : MDefOk K (He.fAd K d.at_) F fd := by
  simp only [mdefB, Bool.and_eq_true, decide_eq_true_eq] at h
  obtain ⟨h1, h2, h3, h4⟩ := h
  obtain ⟨oc, od, dV, kV, doc, pm, an, cdv, ct, osl, e, lk, hc, _, _⟩ := D.ex
  exact ⟨con, h4, ⟨oc, od, osl, d.name, d.qual, d.params, d.body, d.scope, dV, kV, doc, pm, cdv, ct, an, N, e, e ▸ lk, hc, scope_of h2, h3, h1⟩, pos, kw⟩
/-- a method without defaults -/
theorem mdefN {K : PySem.W.Frag} {fa : List He.Fa} {fn : List He.DefD} (hs : He.SaysD fa fn K) (i : Nat) {d : He.DefD} (hi : fn[i]? = some d) {F : Fun} (N : List Str) (h : mdefB d F N = true) (hd : d.dfl = []) (hf : F.dfl = []) (hk : F.kwo = none)
    (hb : ∀ (kV doc pm : Value) (an : Option Addr) (cdv ct : Value) (us : List Value), us.length = F.pn.length → bindArgs (PySem.W.fnOf d.name d.qual d.params d.body d.scope .none kV doc pm an cdv ct) { pos := us } = Pure.pure (F.pn.zip us)) :
    ∃ fd, MDefOk K (He.fAd K d.at_) F fd := by
  obtain ⟨fd, D⟩ := hs.def_ i hi
  have e : He.DefD.dvs K d = [] := by
    unfold He.DefD.dvs
    rw [hd]; rfl
  have D' := D
  rw [e] at D'
  refine ⟨fd, mdef_of D h (by rw [hf]; rfl) (fun _ n hn => ?_) fun x hx => by rw [hk] at hx; cases hx⟩
  rw [hf]
  refine ⟨[], D'.bindsN (ps := F.pn) hb, ?_⟩
  rw [List.drop_nil]
  exact .nil
/-- a method whose last parameter wants a name -/
theorem mdefK {K : PySem.W.Frag} {fa : List He.Fa} {fn : List He.DefD} (hs : He.SaysD fa fn K) (i : Nat) {d : He.DefD} (hi : fn[i]? = some d) {F : Fun} {x : Str} (N : List Str) (h : mdefB d F N = true) (hd : d.dfl = []) (hf : F.dfl = []) (hk : F.kwo = some x)
    (hb : ∀ (kV doc pm : Value) (an : Option Addr) (cdv ct : Value) (us : List Value) (w : Value), us.length + 1 = F.np → bindArgs (PySem.W.fnOf d.name d.qual d.params d.body d.scope .none kV doc pm an cdv ct) ⟨us, [(x, w)]⟩ = Pure.pure (F.pn.zip (us ++ [w]))) :
    ∃ fd, MDefOk K (He.fAd K d.at_) F fd := by
  obtain ⟨fd, D⟩ := hs.def_ i hi
  have e : He.DefD.dvs K d = [] := by
    unfold He.DefD.dvs
    rw [hd]; rfl
  refine ⟨fd, mdef_of D h (by rw [hf]; rfl) (fun z => by rw [hk] at z; cases z) fun y hy => ⟨hf, fun s us w _ hl => ?_⟩⟩
  obtain rfl : x = y := by
    rw [hk] at hy
    exact Option.some.inj hy
  rw [e] at D
  obtain ⟨oc, od, dV, kV, doc, pm, an, cdv, ct, osl, rfl, lk, hcd, hD, hK⟩ := D.ex
  rcases hD with ⟨_, rfl⟩ | ⟨z, _⟩
  · exact .of_eq (hb kV doc pm an cdv ct us w hl)
  · exact absurd rfl z
/-- a method whose last parameter is None if it is left out -/
theorem mdefD {K : PySem.W.Frag} {fa : List He.Fa} {fn : List He.DefD} (hs : He.SaysD fa fn K) (i : Nat) {d : He.DefD} (hi : fn[i]? = some d) {F : Fun} {m : Nat} (N : List Str) (h : mdefB d F N = true) (hd : d.dfl = [.non]) (hf : F.dfl = [.non]) (hk : F.kwo = none) (hm : F.pn.length = m + 1)
    (hb0 : ∀ (T : Addr) (kV doc pm : Value) (an : Option Addr) (cdv ct : Value) (us : List Value) (u : Value), us.length = m → ∃ k, bindArgs (PySem.W.fnOf d.name d.qual d.params d.body d.scope (.ref T) kV doc pm an cdv ct) ⟨us, []⟩ = seqItems? (.ref T) >>= k ∧ k (some #[u]) = pure (F.pn.zip (us ++ [u])))
    (hb1 : ∀ (T : Addr) (kV doc pm : Value) (an : Option Addr) (cdv ct : Value) (us : List Value) (u : Value), us.length = m + 1 → ∃ k, bindArgs (PySem.W.fnOf d.name d.qual d.params d.body d.scope (.ref T) kV doc pm an cdv ct) ⟨us, []⟩ = seqItems? (.ref T) >>= k ∧ k (some #[u]) = pure (F.pn.zip us)) :
    ∃ fd, MDefOk K (He.fAd K d.at_) F fd := by
  obtain ⟨fd, D⟩ := hs.def_ i hi
  have e : He.DefD.dvs K d = [.non] := by
    unfold He.DefD.dvs
    rw [hd]; rfl
  have D' := D
  rw [e] at D'
  refine ⟨fd, mdef_of D h (by rw [hf]; rfl) (fun _ n hn => ?_) fun x hx => by rw [hk] at hx; cases hx⟩
  rw [hf] at hn ⊢
  match n, hn with
  | 0, _ =>
    obtain ⟨ds, h1, h2⟩ := D'.binds1 (ps := F.pn) m 0 (by simp) (by simp; omega) fun T kV doc pm an cdv ct us its l1 l2 => by
      match its, l2 with
      | [u], _ => exact hb0 T kV doc pm an cdv ct us u l1
    exact ⟨ds, h2, h1⟩
  | 1, _ =>
    obtain ⟨ds, h1, h2⟩ := D'.binds1 (ps := F.pn) (m + 1) 1 (by simp) (by simp; omega) fun T kV doc pm an cdv ct us its l1 l2 => by
      match its, l2 with
      | [u], _ =>
        obtain ⟨k, k1, k2⟩ := hb1 T kV doc pm an cdv ct us u l1
        exact ⟨k, k1, by simpa using k2⟩
    exact ⟨ds, h2, h1⟩
  | n + 2, hn => simp at hn
/-! ### a program by its tables -/
section
variable (fnT : List (Str × Fun)) (excN : List Str) (strT : List (Str × Str)) (intT : List (Str × Int)) (tupT : List (Str × Str)) (fvN : List Str) (clT : List (Str × List (Str × Fun) × List Str))
def faOf : List He.Fa := (glN fnT excN tupT clT).map He.Fa.glo ++ (excN.map He.Fa.exc ++ (blts.map He.Fa.free ++ (strT.map (fun p => He.Fa.str p.1 p.2) ++ (intT.map (fun p => He.Fa.int p.1 p.2) ++
  (clT.map (fun p => He.Fa.cls p.1) ++ (clT.map (fun p => He.Fa.mkr p.1) ++ (clT.flatMap (fun p => p.2.1.map fun q => He.Fa.meth p.1 q.1) ++ clT.flatMap (fun p => p.2.2.map fun f => He.Fa.noat p.1 f))))))))
def gfOf (K : PySem.W.Frag) (w : World) : AMap := ⟨fun x => if (glN fnT excN tupT clT).contains x then some (He.ga K x) else none, w⟩
theorem gfOf_at {K : PySem.W.Frag} {w : World} {x : Str} : gfOf fnT excN tupT clT K w x = if (glN fnT excN tupT clT).contains x then some (He.ga K x) else none := rfl
theorem look_mem {α : Type} : ∀ {l : List (Str × α)} {x : Str} {a : α}, l.lookup x = some a → (x, a) ∈ l
  | [], _, _, h => by cases h
  | (y, b) :: l, x, a, h => by
    rw [List.lookup_cons] at h
    split at h
    · rename_i e
      have e : x = y := by simpa using e
      cases h; subst e
      exact List.mem_cons_self
    · exact List.mem_cons_of_mem _ (look_mem h)
theorem fact_mem {fa : List He.Fa} {fn : List He.DefD} {K : PySem.W.Frag} (c : He.SaysD fa fn K) {f : He.Fa} (h : f ∈ fa) : f.ok K = true := by
  obtain ⟨i, hi⟩ := List.mem_iff_getElem?.mp h
  exact c.fact i hi
variable {fnT excN strT intT tupT fvN clT} {wh : Bool}
theorem cl_name {K : PySem.W.Frag} {w : World} {c : Str} {t : List (Str × Fun) × List Str} (m : (c, t) ∈ clT) : gfOf fnT excN tupT clT K w c = some (He.ga K c) := by
  rw [gfOf_at]
  rw [if_pos]
  have : c ∈ glN fnT excN tupT clT := List.mem_append_right _ (List.mem_append_right _ (List.mem_append_right _ (List.mem_map.mpr ⟨_, m, rfl⟩)))
  simpa using this
theorem cl_fa {f : He.Fa} (h : f ∈ clT.map (fun p => He.Fa.cls p.1) ++ (clT.map (fun p => He.Fa.mkr p.1) ++ (clT.flatMap (fun p => p.2.1.map fun q => He.Fa.meth p.1 q.1) ++ clT.flatMap (fun p => p.2.2.map fun f => He.Fa.noat p.1 f)))) : f ∈ faOf fnT excN strT intT tupT clT :=
  List.mem_append_right _ (List.mem_append_right _ (List.mem_append_right _ (List.mem_append_right _ (List.mem_append_right _ h))))
theorem cl_fa1 {c : Str} {t : List (Str × Fun) × List Str} (m : (c, t) ∈ clT) : He.Fa.cls c ∈ faOf fnT excN strT intT tupT clT := cl_fa (List.mem_append_left _ (List.mem_map.mpr ⟨_, m, rfl⟩))
theorem cl_fa2 {c : Str} {t : List (Str × Fun) × List Str} (m : (c, t) ∈ clT) : He.Fa.mkr c ∈ faOf fnT excN strT intT tupT clT := cl_fa (List.mem_append_right _ (List.mem_append_left _ (List.mem_map.mpr ⟨_, m, rfl⟩)))
theorem cl_fa3 {c : Str} {t : List (Str × Fun) × List Str} {q : Str × Fun} (m : (c, t) ∈ clT) (n : q ∈ t.1) : He.Fa.meth c q.1 ∈ faOf fnT excN strT intT tupT clT := cl_fa (List.mem_append_right _ (List.mem_append_right _ (List.mem_append_left _ (List.mem_flatMap.mpr ⟨_, m, List.mem_map.mpr ⟨_, n, rfl⟩⟩))))
theorem cl_fa4 {c f : Str} {t : List (Str × Fun) × List Str} (m : (c, t) ∈ clT) (n : f ∈ t.2) : He.Fa.noat c f ∈ faOf fnT excN strT intT tupT clT := cl_fa (List.mem_append_right _ (List.mem_append_right _ (List.mem_append_right _ (List.mem_flatMap.mpr ⟨_, m, List.mem_map.mpr ⟨_, n, rfl⟩⟩))))
theorem progOk {K : PySem.W.Frag} {w : World} {mg : Str → Option Value} {h : Heap} {fn : List He.DefD} (hs : He.SaysD (faOf fnT excN strT intT tupT clT) fn K) (X : K.In h) (ns : h.Ns mainGlobals mg)
    (hd : ∀ p ∈ fnT, ∃ fd, PySem.W.keepIn K (.ref (He.ga K p.1)) = true ∧ DefOk K (He.ga K p.1) p.2 fd) (hv : ∀ x ∈ fvN, x ∈ fnT.map fun p => p.1) (ht : ∀ p ∈ tupT, p = (Str.ofString "DRAWER", Str.ofString "drawer") ∨ p = (Str.ofString "GONE", Str.ofString "gone")) (hmd : ∀ p ∈ clT, ∀ q ∈ p.2.1, ∃ fd, MDefOk K (He.ma K (He.ga K p.1) q.1) q.2 fd) (hw : wh = true → WhFact K mg (gfOf fnT excN tupT clT K w) excN) : ProgOk K mg (gfOf fnT excN tupT clT K w) (progOf fnT excN strT intT tupT fvN wh clT) where
  wh := hw
  cls := fun c f hf => by
    have hf : (flOf clT c).contains f = true := hf
    unfold flOf at hf
    split at hf
    · rename_i t ht
      have m := look_mem ht
      refine ⟨_, cl_name m, He.cls_ok (fact_mem hs (cl_fa1 m)), fun g hg => ?_⟩
      have hg : (flOf clT c).contains g = true := hg
      unfold flOf at hg
      rw [ht] at hg
      have hg : g ∈ t.2 := by simpa using hg
      exact He.noat_ok (fact_mem hs (cl_fa4 m hg))
    · simp at hf
  mth := fun c m F e => by
    have e : mtOf clT c m = some F := e
    unfold mtOf at e
    split at e
    · rename_i t ht
      have m1 := look_mem ht
      have m2 := look_mem e
      obtain ⟨fd, h1⟩ := hmd _ m1 _ m2
      exact ⟨_, _, fd, cl_name m1, He.cls_ok (fact_mem hs (cl_fa1 m1)), He.meth_ok (fact_mem hs (cl_fa3 m1 m2)), h1⟩
    · cases e
  mkr := fun c F e => by
    have e : mtOf clT c (Str.ofString "__init__") = some F := e
    unfold mtOf at e
    split at e
    · rename_i t ht
      have m1 := look_mem ht
      have m2 := look_mem e
      obtain ⟨fd, h1⟩ := hmd _ m1 _ m2
      exact ⟨_, _, fd, cl_name m1, He.mkr_ok (fact_mem hs (cl_fa2 m1)), h1⟩
    · cases e
  bl := fun x hx => by
    have hx : x ∈ blts := by simpa using hx
    exact He.free_ok X ns (fact_mem hs (List.mem_append_right _ (List.mem_append_right _ (List.mem_append_left _ (List.mem_map_of_mem hx)))))
  gf := fun x a e => by
    rw [gfOf_at] at e
    split at e
    · rename_i hc
      cases e
      have hc : x ∈ glN fnT excN tupT clT := by simpa using hc
      exact He.glo_ok X ns (fact_mem hs (List.mem_append_left _ (List.mem_map_of_mem hc)))
    · cases e
  fn := fun x F e => by
    have m := look_mem e
    obtain ⟨fd, h1, h2⟩ := hd _ m
    refine ⟨_, fd, ?_, h1, h2⟩
    rw [gfOf_at]
    rw [if_pos (by
      have : x ∈ glN fnT excN tupT clT := List.mem_append_left _ (List.mem_map.mpr ⟨_, m, rfl⟩)
      simpa using this)]
  gl := fun x d e => by
    have m := look_mem e
    rcases List.mem_append.mp m with m | m
    · obtain ⟨⟨y, z⟩, hm, e2⟩ := List.mem_map.mp m
      cases e2
      obtain ⟨t, ht⟩ := He.str_ok X ns (fact_mem hs (List.mem_append_right _ (List.mem_append_right _ (List.mem_append_right _ (List.mem_append_left _ (List.mem_map.mpr ⟨_, hm, rfl⟩))))))
      exact ⟨.str z, _, ht, ⟨t, rfl⟩, fun _ _ _ _ => rfl⟩
    · rcases List.mem_append.mp m with m | m
      · obtain ⟨⟨y, z⟩, hm, e2⟩ := List.mem_map.mp m
        cases e2
        obtain ⟨t, ht⟩ := He.int_ok X ns (fact_mem hs (List.mem_append_right _ (List.mem_append_right _ (List.mem_append_right _ (List.mem_append_right _ (List.mem_append_left _ (List.mem_map.mpr ⟨_, hm, rfl⟩)))))))
        exact ⟨.int z, _, ht, ⟨t, rfl⟩, fun _ _ _ _ => rfl⟩
      rcases List.mem_append.mp m with m | m
      · obtain ⟨⟨y, z⟩, hm, e2⟩ := List.mem_map.mp m
        cases e2
        have hc : y ∈ glN fnT excN tupT clT := List.mem_append_right _ (List.mem_append_right _ (List.mem_append_left _ (List.mem_map.mpr ⟨_, hm, rfl⟩)))
        have hG : gfOf fnT excN tupT clT K w y = some (He.ga K y) := by
          rw [gfOf_at]
          rw [if_pos (by simpa using hc)]
        refine ⟨.ref (He.ga K y), _, He.glo_ok X ns (fact_mem hs (List.mem_append_left _ (List.mem_map_of_mem hc))), rfl, fun H w S st => ?_⟩
        rcases ht _ hm with e | e <;> cases e
        · obtain ⟨o, q⟩ := st.gd _ hG
          exact ⟨_, _, rfl, .inr ⟨o, q⟩, Reps.cons rfl Reps.nil⟩
        · obtain ⟨o, q⟩ := st.gg _ hG
          exact ⟨_, _, rfl, .inr ⟨o, q⟩, Reps.cons rfl Reps.nil⟩
      · obtain ⟨y, hm, e2⟩ := List.mem_map.mp m
        cases e2
        have hc : x ∈ glN fnT excN tupT clT := List.mem_append_left _ (hv x hm)
        refine ⟨.ref (He.ga K x), _, He.glo_ok X ns (fact_mem hs (List.mem_append_left _ (List.mem_map_of_mem hc))), rfl, fun _ _ _ _ => ⟨_, rfl, ?_⟩⟩
        rw [gfOf_at]
        rw [if_pos (by simpa using hc)]
  ex := fun x hx => by
    have hx : x ∈ excN := by simpa [progOf] using hx
    have hc : x ∈ glN fnT excN tupT clT := List.mem_append_right _ (List.mem_append_left _ hx)
    obtain ⟨c1, c2, c3, c4⟩ := He.exc_ok (fact_mem hs (List.mem_append_right _ (List.mem_append_left _ (List.mem_map_of_mem hx))))
    refine ⟨He.ga K x, ?_, He.glo_ok X ns (fact_mem hs (List.mem_append_left _ (List.mem_map_of_mem hc))), c1, c2, c3, c4⟩
    rw [gfOf_at]
    rw [if_pos (by simpa using hc)]
end
end Lt
namespace Lt
open PySem L2 PySem.Spec PyProof.Rows
/-- objects that a law's start locks: known to their objects, no dicts, not of the written part -/
structure Lck (Pm : Program) (w : World) (K : PySem.W.Frag) (h : Heap) (H : Hp) : Prop where
  ok : HOk Pm w H h
  frz : ∀ b u, H b = some u → K.lookup b = none ∧ ∃ o v, u = .frz o v ∧ ∀ es ep, o.data ≠ .dict es ep
/-- the law's function is called where such objects stand -/
theorem law_from {Pm : Program} {w : World} {K : PySem.W.Frag} {mg mb : Str → Option Value} {CX : CXT} {k : Nat} {f a : Addr} {fd : FuncData} {x : Str} {sp : Sp} {s : Shared} {H : Hp} (L : Lck Pm w K s.heap H)
    (kin : K.In s.heap) (ns : s.heap.Ns mainGlobals mg) (nb : s.heap.Ns builtinsNs mb) (boot : ∀ y : Str, y ≠ "__name__" → mb y = bootBuiltins y) (lim : s.heap.NoLimit) (gn : s.gens = #[]) (room : Room k callerA)
    (fok : ∀ base : Heap, K.In base → base.Ns mainGlobals mg → FnOk Pm w K mg base CX k f fd [x] sp) (bnd : ∀ (s : Shared) (u : Value), BindsTo s fd ⟨[u], []⟩ [(x, u)])
    (pr : sp [.ref a] H (fun v _ => v = .bl true) fun _ _ _ => False) (esc : ∀ e s', CX [] H s (fun _ _ _ => False) e s' → False) :
    codeAny (model Pm w) callerA (.call (.ref f) ⟨[.ref a], []⟩) (fun r s' => r = .ok (.ret (.bool true)) ∧ OldK s.heap s'.heap ∧ s'.os = s.os ∧ AllBare s'.gens) s := by
  have free : ∀ {b : Addr} {o : Obj}, s.heap.get? b = some o → (∃ es ep, o.data = .dict es ep) ∨ (∃ u, K.lookup b = some u) → H b = none := fun {b o} e q => by
    cases z : H b with
    | none => rfl
    | some u =>
      obtain ⟨h1, o2, v, h2, h3⟩ := L.frz b u z
      subst h2
      rcases q with ⟨es, ep, q⟩ | ⟨u, q⟩
      · have e2 := (L.ok b _ z).1
        rw [e] at e2
        cases e2
        exact absurd q (h3 es ep)
      · rw [h1] at q; cases q
  have nsK : ∀ {b : Addr} {m : Str → Option Value}, s.heap.Ns b m → (hidT s.heap H).Ns b m := fun {b m} z => by
    obtain ⟨o, es, ep, e, d, r⟩ := z
    exact ⟨o, es, ep, hidT_get e (free e (.inl ⟨es, ep, d⟩)), d, r⟩
  have kb : K.In (hidT s.heap H) := fun b o e => hidT_get (kin b o e) (free (kin b o e) (.inr ⟨o, e⟩))
  have md : Mod K mg (hidT s.heap H) := {
    kin := kb
    glob := nsK ns
    blt := ⟨mb, nsK nb, boot⟩
    nolimit := by
      obtain ⟨mc, h1, h2⟩ := lim
      exact ⟨mc, nsK h1, h2⟩ }
  have env : Env0 Pm w K mg (hidT s.heap H) callerA [] s H :=
    ⟨rfl, md, fun b o e => of_hidT e, Nat.le_of_eq (hidT_size _ _), trivial, (fun b hb => by simp [frs] at hb), L.ok, .of_eq gn⟩
  refine codeAny_mono ((fok _ kb (nsK ns)).run callerA [] s H ⟨[.ref a], []⟩ [.ref a] [.ref a] _ _ room env (bnd s (.ref a)) (.cons rfl .nil) pr) fun r s' z => ?_
  cases r with
  | error e => exact (esc e s' z).elim
  | ok fl =>
    cases fl with
    | ret u =>
      obtain ⟨v, H2, os, bare, un, ok2, rv, q⟩ := z
      obtain rfl : v = .bl true := q
      obtain rfl : u = Value.bool true := rv
      refine ⟨rfl, OldK.of_keep fun b o e => ?_, os, bare⟩
      cases z : H b with
      | none => exact un.keep b o e z (fun m => List.not_mem_nil (show b ∈ ([] : List Addr) from m)) (by simp)
      | some u =>
        obtain ⟨_, o2, v, h2, _⟩ := L.frz b u z
        subst h2
        have e1 := (L.ok b _ z).1
        have e2 := (ok2 b _ (un.frzs b o2 v z)).1
        rw [e] at e1
        cases e1
        exact e2
    | _ => exact z.elim
/-! ### the module's tuples -/
def isTx1 (z : Str) : Option Obj → Bool
  | some ⟨.type c, _, .seq its _, _⟩ => c == "tuple" && (match its.toList with
    | [.str y _] => decide (y = z)
    | _ => false)
  | _ => false
theorem isTx1_of {z : Str} {o : Option Obj} (h : isTx1 z o = true) : ∃ u t n, o = some u ∧ u.cls = .type "tuple" ∧ u.data = .seq #[.str z t] n := by
  unfold isTx1 at h
  split at h
  · rename_i c d its n sl
    simp only [Bool.and_eq_true, beq_iff_eq] at h
    obtain ⟨rfl, h⟩ := h
    split at h
    · rename_i y t e
      have h : y = z := by simpa using h
      subst h
      refine ⟨_, t, n, rfl, rfl, ?_⟩
      show Data.seq its n = _
      have : its = #[.str y t] := by
        rw [← Array.toArray_toList (xs := its), e]
      rw [this]
    · cases h
  · cases h
def isTup1 (o : Obj) : Bool := match o.cls, o.data with
  | .type c, .seq its _ => c == "tuple" && (match its.toList with
    | [.str _ _] => true
    | _ => false)
  | _, _ => false
/-- what is kept of the heap at the head's end: no lists, no tuples of one text -/
def keptM (g : Addr → Option Obj) (as : List Addr) : PySem.W.Frag := (He.frG g as).filter fun p => !isLstC p.2.cls && !isTup1 p.2
structure NoM (K : PySem.W.Frag) : Prop where
  lst : ∀ a o, K.lookup a = some o → o.cls ≠ .type "list"
  tup : ∀ a o, K.lookup a = some o → isTup1 o = false
theorem keptM_in {h : Heap} {as : List Addr} : (keptM h.get? as).In h := by
  intro a o q
  have m := (List.mem_filter.mp (mem_lookup q)).1
  obtain ⟨b, _, e⟩ := List.mem_filterMap.mp m
  obtain ⟨u, hu, e2⟩ := Option.map_eq_some_iff.mp e
  cases e2
  exact hu
theorem keptM_no {g : Addr → Option Obj} {as : List Addr} : NoM (keptM g as) := by
  have k : ∀ a o, (keptM g as).lookup a = some o → isLstC o.cls = false ∧ isTup1 o = false := fun a o q => by
    have m := (List.mem_filter.mp (mem_lookup q)).2
    simpa using m
  exact ⟨fun a o q z => by have := (k a o q).1; rw [z] at this; simp [isLstC] at this, fun a o q => (k a o q).2⟩
def obT (tn : List (Str × Str)) (K : PySem.W.Frag) (g : Addr → Option Obj) : Bool := tn.all fun p => isTx1 p.2 (g (He.ga K p.1))
def hookM (n : Nat) (fa : List He.Fa) (fn : List He.DefD) (tn : List (Str × Str)) (xb : PySem.W.Frag → Bool) : PySem.W.Hook where
  α := He.AlD × Bool
  obs := fun s => (He.obsD fa fn (keptM s.heap.get? (He.asD s.heap.get? n)), obT tn (keptM s.heap.get? (He.asD s.heap.get? n)) s.heap.get? && xb (keptM s.heap.get? (He.asD s.heap.get? n)))
  val := fun _ => (He.valD fn, true)
  says := fun _ h => ∃ K : PySem.W.Frag, K.In h ∧ NoM K ∧ He.SaysD fa fn K ∧ xb K = true ∧ ∀ p ∈ tn, isTx1 p.2 (h.get? (He.ga K p.1)) = true
  of := fun w s e => ⟨_, keptM_in, keptM_no, (Prod.mk.inj e).1, (Bool.and_eq_true_iff.mp (Prod.mk.inj e).2).2, fun p hp => List.all_eq_true.mp (Bool.and_eq_true_iff.mp (Prod.mk.inj e).2).1 p hp⟩
  keeps := fun w h h' ⟨K, k1, k2, k3, k5, k4⟩ k => ⟨K, fun a o q => k a o (k1 a o q), k2, k3, k5, fun p hp => by
    have z := k4 p hp
    obtain ⟨u, t, n, e, _, _⟩ := isTx1_of z
    rw [e] at z
    rw [k _ u e]
    exact z⟩
def obM (n : Nat) (fa : List He.Fa) (fn : List He.DefD) (tn : List (Str × Str)) (xb : PySem.W.Frag → Bool) (s : PySem.W.SharedT) : He.AlD × Bool :=
  (He.obsD fa fn (keptM (HandSHeadRun.getT s) (He.asD (HandSHeadRun.getT s) n)), obT tn (keptM (HandSHeadRun.getT s) (He.asD (HandSHeadRun.getT s) n)) (HandSHeadRun.getT s) && xb (keptM (HandSHeadRun.getT s) (He.asD (HandSHeadRun.getT s) n)))
theorem obM_eq (n : Nat) (fa : List He.Fa) (fn : List He.DefD) (tn : List (Str × Str)) (xb : PySem.W.Frag → Bool) (s : PySem.W.SharedT) : obM n fa fn tn xb s = (hookM n fa fn tn xb).obs s.abs := by
  have : HandSHeadRun.getT s = s.abs.heap.get? := funext (HandSHeadRun.getT_eq s)
  unfold obM
  rw [this]
  rfl
/-! ### the start -/
def startH (K : PySem.W.Frag) (tn : List (Str × Str)) (h : Heap) (a : Addr) (vs : List Value) (ns : List Int) : Hp := fun b =>
  if b = a then some (.frz { cls := .type "list", data := .seq vs.toArray } (.lst (ns.map V.int)))
  else (tn.find? fun p => decide (He.ga K p.1 = b)).bind fun p => (h.get? b).map fun o => .frz o (.tup [.str p.2])
theorem startH_a {K : PySem.W.Frag} {tn : List (Str × Str)} {h : Heap} {a : Addr} {vs : List Value} {ns : List Int} : startH K tn h a vs ns a = some (.frz { cls := .type "list", data := .seq vs.toArray } (.lst (ns.map V.int))) := by
  unfold startH; rw [if_pos rfl]
theorem startH_t {K : PySem.W.Frag} {tn : List (Str × Str)} {h : Heap} {a b : Addr} {vs : List Value} {ns : List Int} {u : HO} (hb : b ≠ a) (e : startH K tn h a vs ns b = some u) :
    ∃ p o, p ∈ tn ∧ He.ga K p.1 = b ∧ h.get? b = some o ∧ u = .frz o (.tup [.str p.2]) := by
  unfold startH at e
  rw [if_neg hb] at e
  obtain ⟨p, h1, h2⟩ := Option.bind_eq_some_iff.mp e
  obtain ⟨o, h3, h4⟩ := Option.map_eq_some_iff.mp h2
  exact ⟨p, o, List.mem_of_find?_eq_some h1, by simpa using List.find?_some h1, h3, h4.symm⟩
theorem start_lck {Pm : Program} {w : World} {K : PySem.W.Frag} {tn : List (Str × Str)} {h : Heap} {a : Addr} {vs : List Value} {ns : List Int} (kin : K.In h) (no : NoM K) (ht : ∀ p ∈ tn, isTx1 p.2 (h.get? (He.ga K p.1)) = true)
    (ha : h.get? a = some { cls := .type "list", data := .seq vs.toArray }) (hi : IntsAre vs ns) (hl : ns.length ≤ sizeLine) : Lck Pm w K h (startH K tn h a vs ns) where
  ok := fun b u e => by
    by_cases hb : b = a
    · subst hb
      rw [startH_a] at e
      cases e
      exact ⟨ha, by rw [List.length_map]; exact hl, vs, _, vals_ints hi, ha⟩
    · obtain ⟨p, o, hp, hg, ho, rfl⟩ := startH_t hb e
      have z := ht p hp
      rw [hg, ho] at z
      obtain ⟨u, t, n, e1, e2, e3⟩ := isTx1_of z
      cases e1
      exact ⟨ho, (by rw [sizeLine_eq]; exact (by decide : 1 ≤ 16777216)), [.str p.2 t], .cons ⟨t, rfl⟩ .nil, o, ho, e2, n, e3⟩
  frz := fun b u e => by
    by_cases hb : b = a
    · subst hb
      rw [startH_a] at e
      cases e
      refine ⟨?_, _, _, rfl, fun es ep z => by cases z⟩
      cases q : K.lookup b with
      | none => rfl
      | some o =>
        have e2 := kin b o q
        rw [ha] at e2
        cases e2
        exact absurd rfl (no.lst b _ q)
    · obtain ⟨p, o, hp, hg, ho, rfl⟩ := startH_t hb e
      have z := ht p hp
      rw [hg, ho] at z
      obtain ⟨u, t, n, e1, e2, e3⟩ := isTx1_of z
      cases e1
      refine ⟨?_, o, _, rfl, fun es ep z => by rw [e3] at z; cases z⟩
      cases q : K.lookup b with
      | none => rfl
      | some o' =>
        have e4 := kin b o' q
        rw [ho] at e4
        cases e4
        have := no.tup b _ q
        simp [isTup1, e2, e3] at this
def TupG (G : AMap) (K : PySem.W.Frag) (tn : List (Str × Str)) (x z : Str) : Prop := G x = none ∨ (G x = some (He.ga K x) ∧ (x, z) ∈ tn)
theorem start_g {K : PySem.W.Frag} {tn : List (Str × Str)} {h : Heap} {a : Addr} {vs : List Value} {ns : List Int} {G : AMap} (ht : ∀ p ∈ tn, isTx1 p.2 (h.get? (He.ga K p.1)) = true)
    (ha : h.get? a = some { cls := .type "list", data := .seq vs.toArray }) {x z : Str} (t : TupG G K tn x z) (b : Addr) (e : G x = some b) : ∃ o, startH K tn h a vs ns b = some (.frz o (.tup [.str z])) := by
  rcases t with t | ⟨t, hm⟩
  · rw [t] at e; cases e
  · rw [t] at e
    obtain rfl : He.ga K x = b := Option.some.inj e
    have hz := ht _ hm
    obtain ⟨u, tk, n, e1, e2, e3⟩ := isTx1_of hz
    have hb : He.ga K x ≠ a := fun q => by
      rw [q, ha] at e1
      cases e1
      exact absurd e2 (by simp)
    have e1 : h.get? (He.ga K x) = some u := e1
    cases q : tn.find? fun p => decide (He.ga K p.1 = He.ga K x) with
    | none =>
      have := List.find?_eq_none.mp q _ hm
      simp at this
    | some p =>
      have h1 := List.mem_of_find?_eq_some q
      have h2 : He.ga K p.1 = He.ga K x := by simpa using List.find?_some q
      have h3 := ht p h1
      rw [h2] at h3
      obtain ⟨u2, t2, n2, f1, f2, f3⟩ := isTx1_of h3
      rw [e1] at f1
      cases f1
      rw [e3] at f3
      have : p.2 = z := by
        injection f3 with f3 _
        have f4 := congrArg Array.toList f3
        simp at f4
        exact f4.1.symm
      refine ⟨u, ?_⟩
      unfold startH
      rw [if_neg hb, q, ← this]
      show (h.get? (He.ga K x)).map _ = _
      rw [e1]; rfl
theorem start_sto {K : PySem.W.Frag} {tn : List (Str × Str)} {h : Heap} {a : Addr} {vs : List Value} {ns : List Int} {G : AMap} (ht : ∀ p ∈ tn, isTx1 p.2 (h.get? (He.ga K p.1)) = true)
    (ha : h.get? a = some { cls := .type "list", data := .seq vs.toArray }) (hx : ∀ p ∈ tn, p.2 = Str.ofString "drawer" ∨ p.2 = Str.ofString "gone")
    (gd : TupG G K tn (Str.ofString "DRAWER") (Str.ofString "drawer")) (gg : TupG G K tn (Str.ofString "GONE") (Str.ofString "gone")) : StoR G ⟨[], fun b => b = a⟩ [] (startH K tn h a vs ns) where
  len := rfl
  nd := List.nodup_nil
  ob := fun l b e => by simp at e
  ap := fun b _ m => by cases m
  fz := fun b e => by
    subst e
    rw [startH_a]; simp
  fr := fun b o us e => by
    by_cases hb : b = a
    · subst hb
      rw [startH_a] at e
      cases e
    · obtain ⟨p, o', hp, hg, ho, e2⟩ := startH_t hb e
      cases e2
      exact (hx p hp).imp (fun z => by rw [z]) fun z => by rw [z]
  gd := start_g ht ha gd
  gg := start_g ht ha gg
/-- a law, by its head's facts and the evaluator's word -/
theorem law_walk2 {l : PySem.W.OpenLaw} {m n : Nat} {q : Program} {loose : List Str} {XP : (Str → Option Value) → Heap → Prop} {lev : Nat} {fa : List He.Fa} {fn : List He.DefD} {tn : List (Str × Str)} {xb : PySem.W.Frag → Bool} {d : DefRec} {x : Str} {P : Prog} {F : Fun} {Gf : PySem.W.Frag → World → AMap}
    (hn : l.most = some m) (hm : m ≤ sizeLine) (hdf : d.params.defaults = []) (hr : Room (2 * n) callerA) (hx : ∀ p ∈ tn, p.2 = Str.ofString "drawer" ∨ p.2 = Str.ofString "gone")
    (hK : ∀ (K : PySem.W.Frag) (mg : Str → Option Value) (h : Heap), He.SaysD fa fn K → K.In h → h.Ns mainGlobals mg → xb K = true → ∀ w, ProgOk K mg (Gf K w) P)
    (hF : P.fn d.name = some F) (hpn : F.pn = [x]) (hdl : F.dfl = []) (hwo : ∀ K w, (Gf K w).wo = w) (hG : ∀ K w, TupG (Gf K w) K tn (Str.ofString "DRAWER") (Str.ofString "drawer") ∧ TupG (Gf K w) K tn (Str.ofString "GONE") (Str.ofString "gone"))
    (he : ∀ ns : List Int, ns.length ≤ m → ∃ S, callN P n F [.vl (ns.map D.int)] [] = .rt (.bl true) S) :
    PySem.W.WalkO q loose XP (hookM lev fa fn tn xb).says l.row.toRowW d [] fun f vs => call f vs := by
  refine Att.attach_call hn hdf fun w s0 s1 mg mb f o pm cd doc a vs ns Gd Y ho hd hcd hmg hobj hints hlen hg => ?_
  obtain ⟨K, k1, k2, k3, k5, k4⟩ := Y
  have ok := hK K mg _ k3 k1 Gd.T.g k5 w
  obtain ⟨b, fd, gb, _, hd⟩ := ok.fn _ F hF
  have eb : f = b := by
    have := ok.gf _ b gb
    rw [hmg] at this
    cases this; rfl
  subst eb
  have ff : ∀ base, FnFact l.prog w K mg base (Gf K w) (2 * n) f F fd (callN P n F) := fun base => fn_all (hwo K w) ok n f F fd hd
  obtain ⟨h1, _, h2⟩ := (ff s1.heap).ok
  have h2 := h2 hdl
  rw [hpn] at h2
  have hnp : F.np = 1 := by rw [← (ff s1.heap).len, hpn]; rfl
  have hls : ns.length ≤ sizeLine := Nat.le_trans hlen hm
  refine law_from (CX := CXA l.prog) (K := K) (sp := spF (Gf K w) F.np (callN P n F)) (start_lck (Pm := l.prog) (w := w) k1 k2 k4 hobj hints hls) k1 Gd.T.g Gd.T.b Gd.T.builtins Gd.T.nolimit hg hr (fun base _ _ => ?_) (fun s u => h2 s [u] rfl) ?_ ?_
  · have := (ff base).ok.1
    rw [hpn] at this
    exact fn_anyW this
  · obtain ⟨S, he⟩ := he ns hlen
    have rd : Rd (startH K tn s1.heap a vs ns) a (.lst (ns.map V.int)) := .inr ⟨_, startH_a⟩
    refine ⟨by rw [hnp]; rfl, ⟨[], fun b => b = a⟩, [.vl (ns.map D.int)], [], start_sto k4 hobj hx (hG K w).1 (hG K w).2, ⟨.ref a, [], rfl, ⟨a, _, rfl, rfl, rd, reps_ints ns⟩, rfl⟩, ?_⟩
    rw [he]
    intro w2 v H2 ex st r
    exact r
  · rintro e s' ⟨w, a, B, H', cls, d, h1, h2, h3, h4, h5, h6, h7, h8⟩
    exact h8
end Lt
namespace Lt
open PySem L2 PySem.Spec PyProof.Rows
def gloB (K : PySem.W.Frag) (x : Str) : Bool := (He.Fa.glo x).ok K
def exB (K : PySem.W.Frag) (x : Str) : Bool :=
  (decide (x ∈ whichN) && (He.eqO (PySem.W.findIn K (.ref (He.ga K x)) "__getattribute__") (some (some (.builtin "BaseException.__getattribute__"))) && (He.eqO (PySem.W.findIn K (.ref (He.ga K x)) "__getattr__") (some none) && decide (PySem.W.subIn K (.ref (He.ga K x)) (.type "BaseException") = some true)))) &&
    ((PySem.W.hasDictIn K (He.ga K x) && (He.eqO (PySem.W.findIn K (.ref (He.ga K x)) "__class__") (some (some (.builtin "object.__class__"))) && (He.eqO (PySem.W.specialIn K (.builtin "object.__class__") "__get__") (some (some (.builtin "getset_descriptor.__get__"))) && decide (PySem.W.takesIn K (.builtin "object.__class__") = some true)))) &&
      ((decide (PySem.W.mroIn K (He.ga K x) (.type "object") = some true) && whichN.all fun y => decide (PySem.W.kitOne K (.ref (He.ga K x)) (.ref (He.ga K y)) = some (decide (y = x)))) &&
        (decide (PySem.W.kitOne K (.ref (He.ga K x)) (.type "ValueError") = some true) && decide (PySem.W.exmOne K (.ref (He.ga K x)) (.ref (He.ga K (Str.ofString "TreeError"))) = some true))))
def whXB (excN : List Str) (K : PySem.W.Frag) : Bool :=
  (gloB K (Str.ofString "TreeError") && (gloB K (Str.ofString "_law_which") && whichN.all (gloB K))) && (((He.Fa.free veN).ok K && (He.Fa.free (Str.ofString "isinstance")).ok K) && excN.all (exB K))
def whDefB (d : He.DefD) : Bool := (whichB d.scope d.body && scB [eN, ownN] [eN] d.scope) && ((decide (d.scope.names.lookup eN = some .local) && decide (d.scope.names.lookup ownN = some .local)) && d.dfl.isEmpty)
theorem whDef_of {K : PySem.W.Frag} {fa : List He.Fa} {fn : List He.DefD} (hs : He.SaysD fa fn K) (i : Nat) {d : He.DefD} (hi : fn[i]? = some d) (h : whDefB d = true)
    (hb : ∀ (kV doc pm : Value) (an : Option Addr) (cdv ct : Value) (us : List Value), us.length = [eN].length → bindArgs (PySem.W.fnOf d.name d.qual d.params d.body d.scope .none kV doc pm an cdv ct) { pos := us } = Pure.pure ([eN].zip us)) :
    ∃ fd, PySem.W.keepIn K (.ref (He.fAd K d.at_)) = true ∧ WhDef K (He.fAd K d.at_) fd := by
  simp only [whDefB, Bool.and_eq_true, decide_eq_true_eq, List.isEmpty_iff] at h
  obtain ⟨⟨h1, h2⟩, ⟨h3, h4⟩, h6⟩ := h
  obtain ⟨fd, D⟩ := hs.def_ i hi
  have D' : FunD K d.name d.qual d.params d.body d.scope [] (He.DefD.kws K d) (He.fAd K d.at_) fd := by
    have e : He.DefD.dvs K d = [] := by
      unfold He.DefD.dvs
      rw [h6]; rfl
    rw [e] at D
    exact D
  have b1 := D'.bindsN (ps := [eN]) hb
  obtain ⟨oc, od, dV, kV, doc, pm, an, cdv, ct, osl, e, lk, hc, _, _⟩ := D'.ex
  exact ⟨fd, D'.kp, ⟨oc, od, osl, d.name, d.qual, d.params, d.body, d.scope, dV, kV, doc, pm, cdv, ct, an, e, e ▸ lk, hc, scope_of h2, ⟨h3, h4⟩, h1⟩, b1⟩
theorem wh_of {fnT : List (Str × Fun)} {excN : List Str} {tupT : List (Str × Str)} {clT : List (Str × List (Str × Fun) × List Str)} {K : PySem.W.Frag} {w : World} {mg : Str → Option Value} {h : Heap} (X : K.In h) (ns : h.Ns mainGlobals mg) (hx : whXB excN K = true)
    (hd : ∃ fd, PySem.W.keepIn K (.ref (He.ga K (Str.ofString "_law_which"))) = true ∧ WhDef K (He.ga K (Str.ofString "_law_which")) fd) : WhFact K mg (gfOf fnT excN tupT clT K w) excN := by
  simp only [whXB, Bool.and_eq_true, List.all_eq_true] at hx
  obtain ⟨⟨t1, t2, t3⟩, ⟨t4, t5⟩, t6⟩ := hx
  obtain ⟨fd, k1, k2⟩ := hd
  refine ⟨⟨_, fd, He.glo_ok X ns t2, k1, k2⟩, He.free_ok X ns t5, He.free_ok X ns t4, _, He.glo_ok X ns t1, fun x hc => ?_⟩
  have hm : x ∈ excN := by simpa using hc
  have e := t6 x hm
  simp only [exB, Bool.and_eq_true, decide_eq_true_eq, List.all_eq_true] at e
  obtain ⟨⟨a1, a2, a3, a4⟩, ⟨b1, b2, b3, b4⟩, ⟨c1, c2⟩, d1, d2⟩ := e
  refine ⟨He.ga K x, ?_, a1, ⟨⟨He.eqO_ok a2, He.eqO_ok a3, a4, b1, He.eqO_ok b2, He.eqO_ok b3, b4, c1⟩, fun y hy => ⟨_, He.glo_ok X ns (t3 y hy), c2 y hy⟩, d1⟩, d2⟩
  rw [gfOf_at]
  have hg : x ∈ glN fnT excN tupT clT := List.mem_append_right _ (List.mem_append_left _ hm)
  rw [if_pos (by simpa using hg)]
/-- a run looked at twice -/
theorem two_runs {α β γ δ : Type} {x : Option α} {a : α → β} {b : α → γ} {c : α → δ} {p : β} {q : γ} {r : δ} (h1 : x.map (fun s => (a s, b s)) = some (p, q)) (h3 : x.map c = some r) : x.map (fun s => (a s, b s, c s)) = some (p, q, r) := by
  cases x with
  | none => cases h1
  | some s =>
    simp only [Option.map_some, Option.some.injEq, Prod.mk.injEq] at h1 h3 ⊢
    exact ⟨h1.1, h1.2, h3⟩
end Lt
namespace Lt
open PySem (Str)
def rK {α : Type} (r : R α) (k : α → Sto → O) : O := match r with
  | .ok a S => k a S
  | .exc x S => .exc x S
  | .bad => .bad
def oK (o : O) (k : Slots → Sto → O) : O := match o with
  | .nx σ S => k σ S
  | o => o
def optK {α : Type} (o : Option α) (k : α → O) : O := match o with
  | some a => k a
  | none => .bad
def varK (o : Option (Option D)) (k : D → O) : O := match o with
  | some (some d) => k d
  | _ => .bad
/-- a test's value -/
def blK (d : D) (a b : O) : O := match d with
  | .bl true => a
  | .bl false => b
  | _ => .bad
section
variable {α β : Type} {S : Sto} {σ : Slots}
theorem rK_ok (a : α) (S : Sto) (k : α → Sto → O) : rK (.ok a S) k = k a S := rfl
theorem rK_exc (x : Str) (S : Sto) (k : α → Sto → O) : rK (.exc x S) k = .exc x S := rfl
theorem rK_bad (k : α → Sto → O) : rK .bad k = .bad := rfl
theorem rK_ite (c : Prop) [Decidable c] (a b : R α) (k : α → Sto → O) : rK (if c then a else b) k = if c then rK a k else rK b k := by split <;> rfl
theorem rK_bind (r : R α) (f : α → Sto → R β) (k : β → Sto → O) : rK (r.bind f) k = rK r fun a S => rK (f a S) k := by cases r <;> rfl
theorem oK_nx (σ : Slots) (S : Sto) (k : Slots → Sto → O) : oK (.nx σ S) k = k σ S := rfl
theorem oK_rt (d : D) (S : Sto) (k : Slots → Sto → O) : oK (.rt d S) k = .rt d S := rfl
theorem oK_ct (σ : Slots) (S : Sto) (k : Slots → Sto → O) : oK (.ct σ S) k = .ct σ S := rfl
theorem oK_exc (x : Str) (S : Sto) (k : Slots → Sto → O) : oK (.exc x S) k = .exc x S := rfl
theorem oK_bad (k : Slots → Sto → O) : oK .bad k = .bad := rfl
theorem oK_ite (c : Prop) [Decidable c] (a b : O) (k : Slots → Sto → O) : oK (if c then a else b) k = if c then oK a k else oK b k := by split <;> rfl
theorem oK_rK (r : R α) (k : α → Sto → O) (k2 : Slots → Sto → O) : oK (rK r k) k2 = rK r fun a S => oK (k a S) k2 := by cases r <;> rfl
theorem oK_oK (r : O) (k k2 : Slots → Sto → O) : oK (oK r k) k2 = oK r fun a S => oK (k a S) k2 := by cases r <;> rfl
theorem oK_optK (r : Option α) (k : α → O) (k2 : Slots → Sto → O) : oK (optK r k) k2 = optK r fun a => oK (k a) k2 := by cases r <;> rfl
theorem oK_varK (r : Option (Option D)) (k : D → O) (k2 : Slots → Sto → O) : oK (varK r k) k2 = varK r fun a => oK (k a) k2 := by rcases r with _ | _ | _ <;> rfl
theorem oK_blK (d : D) (a b : O) (k2 : Slots → Sto → O) : oK (blK d a b) k2 = blK d (oK a k2) (oK b k2) := by
  unfold blK; split <;> rfl
theorem optK_some (a : α) (k : α → O) : optK (some a) k = k a := rfl
theorem optK_none (k : α → O) : optK none k = .bad := rfl
theorem optK_ite (c : Prop) [Decidable c] (a b : Option α) (k : α → O) : optK (if c then a else b) k = if c then optK a k else optK b k := by split <;> rfl
theorem optK_map (a : Option α) (f : α → β) (k : β → O) : optK (a.map f) k = optK a fun x => k (f x) := by cases a <;> rfl
theorem varK_some (d : D) (k : D → O) : varK (some (some d)) k = k d := rfl
theorem blK_bl (c : Bool) (a b : O) : blK (.bl c) a b = if c = true then a else b := by cases c <;> rfl
end
section
variable (P : Prog) (call : Fun → List D → Sto → O)
def evK (σ : Slots) (e : E) (S : Sto) (k : D → Sto → O) : O := rK (ev P call σ e S) k
def evsK (σ : Slots) (e : Es) (S : Sto) (k : List D → Sto → O) : O := rK (evs P call σ e S) k
def evcK (σ : Slots) (e : Es) (S : Sto) (k : Bool → Sto → O) : O := rK (evc P call σ e S) k
variable {P call} {σ : Slots} {S : Sto} {k : D → Sto → O}
theorem oK_evK (e : E) (k2 : Slots → Sto → O) : oK (evK P call σ e S k) k2 = evK P call σ e S fun d S => oK (k d S) k2 := oK_rK _ _ _
theorem oK_evsK (e : Es) (k : List D → Sto → O) (k2 : Slots → Sto → O) : oK (evsK P call σ e S k) k2 = evsK P call σ e S fun d S => oK (k d S) k2 := oK_rK _ _ _
theorem evK_var (i : Nat) : evK P call σ (.var i) S k = varK σ[i]? fun d => k d S := by
  unfold evK varK; rw [ev]
  split <;> simp_all [rK]
theorem evK_cst (d : D) : evK P call σ (.cst d) S k = k d S := by unfold evK; rw [ev]; rfl
theorem evK_glb (x : Str) : evK P call σ (.glb x) S k = optK (P.glb x) fun d => k d S := by
  unfold evK optK; rw [ev]
  cases P.glb x <;> rfl
theorem evK_tup (es : Es) : evK P call σ (.tup es) S k = evsK P call σ es S fun ds S => k (.tup ds) S := by
  unfold evK evsK; rw [ev, rK_bind]; rfl
theorem evK_lst (m : Bool) (es : Es) : evK P call σ (.lst m es) S k = evsK P call σ es S fun ds S => rK (mkL m ds S) k := by
  unfold evK evsK; rw [ev, rK_bind]
theorem evK_dct (m : Bool) (es : Es) : evK P call σ (.dct m es) S k = evsK P call σ es S fun ds S1 => optK (pairsX ds) fun acc => rK (mkD m acc S1) k := by
  unfold evK evsK; rw [ev, rK_bind]
  congr 1; funext ds S1
  cases pairsX ds <;> rfl
theorem evK_bin (m : Bool) (op : BOp) (a b : E) : evK P call σ (.bin m op a b) S k = evK P call σ a S fun x S1 => evK P call σ b S1 fun y S2 => rK (binop m S2 op x y) k := by
  unfold evK; rw [ev, rK_bind]
  congr 1; funext x S1
  rw [rK_bind]
def negK (x : D) (S : Sto) (k : D → Sto → O) : O := match x with
  | .int i => k (.int (-i)) S
  | _ => .bad
theorem negK_int (i : Int) : negK (.int i) S k = k (.int (-i)) S := rfl
theorem evK_neg (a : E) : evK P call σ (.neg a) S k = evK P call σ a S fun x S1 => negK x S1 k := by
  unfold evK; rw [ev, rK_bind]
  congr 1; funext x S1
  unfold negK; cases x <;> rfl
def notK (x : D) (S : Sto) (k : D → Sto → O) : O := match x with
  | .bl b => k (.bl (!b)) S
  | _ => .bad
theorem notK_bl (b : Bool) : notK (.bl b) S k = k (.bl (!b)) S := rfl
theorem evK_not (a : E) : evK P call σ (.not a) S k = evK P call σ a S fun x S1 => notK x S1 k := by
  unfold evK; rw [ev, rK_bind]
  congr 1; funext x S1
  unfold notK; cases x <;> rfl
theorem evK_and (a b : E) : evK P call σ (.and a b) S k = evK P call σ a S fun x S1 => blK x (evK P call σ b S1 k) (k (.bl false) S1) := by
  unfold evK; rw [ev, rK_bind]
  congr 1; funext x S1
  unfold blK; cases x with
  | bl b => cases b <;> rfl
  | _ => rfl
theorem evK_or (a b : E) : evK P call σ (.or a b) S k = evK P call σ a S fun x S1 => blK x (k (.bl true) S1) (evK P call σ b S1 k) := by
  unfold evK; rw [ev, rK_bind]
  congr 1; funext x S1
  unfold blK; cases x with
  | bl b => cases b <;> rfl
  | _ => rfl
theorem evK_ite (c a b : E) : evK P call σ (.ite c a b) S k = evK P call σ c S fun x S1 => blK x (evK P call σ a S1 k) (evK P call σ b S1 k) := by
  unfold evK; rw [ev, rK_bind]
  congr 1; funext x S1
  unfold blK; cases x with
  | bl b => cases b <;> rfl
  | _ => rfl
theorem evK_cmp (op : COp) (a b : E) : evK P call σ (.cmp op a b) S k = evK P call σ a S fun x S1 => evK P call σ b S1 fun y S2 => optK (cmpop S2 op x y) fun c => k (.bl c) S2 := by
  unfold evK; rw [ev, rK_bind]
  congr 1; funext x S1
  rw [rK_bind]
  congr 1; funext y S2
  unfold optK; cases cmpop S2 op x y <;> rfl
theorem evK_chn (o1 o2 : COp) (a b c : E) : evK P call σ (.chn o1 o2 a b c) S k = evK P call σ a S fun x S1 => evK P call σ b S1 fun y S2 => optK (cmpop S2 o1 x y) fun t =>
    if t = true then evK P call σ c S2 fun z S3 => optK (cmpop S3 o2 y z) fun t => k (.bl t) S3 else k (.bl false) S2 := by
  unfold evK; rw [ev, rK_bind]
  congr 1; funext x S1
  rw [rK_bind]
  congr 1; funext y S2
  unfold optK
  cases cmpop S2 o1 x y with
  | none => rfl
  | some t =>
    cases t with
    | false => rfl
    | true =>
      show rK (R.bind _ _) _ = _
      rw [rK_bind]
      dsimp only
      rw [if_pos rfl]
      congr 1; funext z S3
      cases cmpop S3 o2 y z <;> rfl
theorem evK_idx (a b : E) : evK P call σ (.idx a b) S k = evK P call σ a S fun x S1 => evK P call σ b S1 fun y S2 => rK (index S2 x y) k := by
  unfold evK; rw [ev, rK_bind]
  congr 1; funext x S1
  rw [rK_bind]
theorem evK_slc (a : E) (lo hi : Es) : evK P call σ (.slc a lo hi) S k = evK P call σ a S fun x S1 => evsK P call σ lo S1 fun l S2 => optK (cutO l) fun i => evsK P call σ hi S2 fun h S3 => optK (cutO h) fun j => rK (sliceI S3 x i j) k := by
  unfold evK evsK; rw [ev, rK_bind]
  congr 1; funext x S1
  rw [rK_bind]
  congr 1; funext l S2
  unfold optK
  cases cutO l with
  | none => rfl
  | some i =>
    show rK (R.bind _ _) _ = _
    rw [rK_bind]
    dsimp only
    congr 1; funext z S3
    cases cutO z <;> rfl
theorem evK_rev (a : E) : evK P call σ (.rev a) S k = evK P call σ a S fun x S1 => optK (lstOf S1 x) fun xs => k (.vl xs.reverse) S1 := by
  unfold evK; rw [ev, rK_bind]
  congr 1; funext x S1
  unfold optK; cases lstOf S1 x <;> rfl
theorem evK_fld (a : E) (f : Str) : evK P call σ (.fld a f) S k = evK P call σ a S fun x S1 => optK (fldGet P S1 x f) fun d => k d S1 := by
  unfold evK; rw [ev, rK_bind]
  congr 1; funext x S1
  unfold optK; cases fldGet P S1 x f <;> rfl
theorem evK_call (fz : Bool) (f : Str) (es : Es) : evK P call σ (.call fz f es) S k = optK (arity (P.fn f) es.len) fun F => evsK P call σ es S fun ds S1 => rK (callF call fz F ds S1) k := by
  unfold evK evsK optK; rw [ev]
  cases arity (P.fn f) es.len with
  | none => rfl
  | some F =>
    show rK (R.bind _ _) _ = _
    rw [rK_bind]
def fnK (g : D) (k : Str → O) : O := match g with
  | .fn f => k f
  | _ => .bad
theorem fnK_fn (f : Str) (k : Str → O) : fnK (.fn f) k = k f := rfl
theorem evK_calv (fz : Bool) (f : E) (es : Es) : evK P call σ (.calv fz f es) S k = evK P call σ f S fun g S1 => fnK g fun f => optK (arity (P.fn f) es.len) fun F => evsK P call σ es S1 fun ds S2 => rK (callF call fz F ds S2) k := by
  unfold evK evsK; rw [ev, rK_bind]
  congr 1; funext g S1
  cases g <;> first | rfl | skip
  rename_i x
  show rK (match arity (P.fn x) es.len with
    | none => .bad
    | some F => _) k = optK _ _
  unfold optK
  cases arity (P.fn x) es.len with
  | none => rfl
  | some F =>
    show rK (R.bind _ _) _ = _
    rw [rK_bind]
theorem evK_blt (m : Bool) (b : Blt) (a : E) : evK P call σ (.blt m b a) S k = evK P call σ a S fun x S1 => rK (builtin m S1 b x) k := by
  unfold evK; rw [ev, rK_bind]
theorem evK_meth (fz : Bool) (o : E) (m : Str) (es : Es) (kn : List Str) (ks : Es) : evK P call σ (.meth fz o m es kn ks) S k = evK P call σ o S fun x S1 => optK (methQ P S1 x m (es.len + ks.len + 1) kn) fun F => evsK P call σ es S1 fun ds S2 => evsK P call σ ks S2 fun us S3 => rK (callF call fz F (x :: (ds ++ us)) S3) k := by
  unfold evK evsK; rw [ev, rK_bind]
  congr 1; funext x S1
  unfold optK
  cases methQ P S1 x m (es.len + ks.len + 1) kn with
  | none => rfl
  | some F =>
    show rK (R.bind _ _) _ = _
    rw [rK_bind]
    congr 1; funext ds S2
    rw [rK_bind]
def nonK (d : D) (a : O) : O := match d with
  | .non => a
  | _ => .bad
theorem nonK_non (a : O) : nonK .non a = a := rfl
theorem evK_new (c : Str) (es : Es) (kn : List Str) (ks : Es) : evK P call σ (.new c es kn ks) S k = optK (newQ P c (es.len + ks.len + 1) kn) fun F => evsK P call σ es S fun ds S1 => evsK P call σ ks S1 fun us S2 => rK (callF call false F (.loc S2.length :: (ds ++ us)) (S2 ++ [.ins c []])) fun v S3 => nonK v (k (.loc S2.length) S3) := by
  unfold evK evsK optK; rw [ev]
  cases newQ P c (es.len + ks.len + 1) kn with
  | none => rfl
  | some F =>
    show rK (R.bind _ _) _ = _
    rw [rK_bind]
    congr 1; funext ds S1
    rw [rK_bind]
    congr 1; funext us S2
    rw [rK_bind]
    congr 1; funext v S3
    cases v <;> rfl
theorem evK_leni (a : E) : evK P call σ (.leni a) S k = evK P call σ a S fun x S1 => optK (methQ P S1 x (Str.ofString "__len__") 1 []) fun F => rK (callF call true F [x] S1) fun y S2 => rK (lenY y S2) k := by
  unfold evK; rw [ev, rK_bind]
  congr 1; funext x S1
  unfold optK
  cases methQ P S1 x (Str.ofString "__len__") 1 [] with
  | none => rfl
  | some F =>
    show rK (R.bind _ _) _ = _
    rw [rK_bind]
theorem lenY_int (i : Int) (S : Sto) : lenY (.int i) S = if 0 ≤ i ∧ i < 4611686018427387904 then .ok (.int i) S else .bad := rfl
theorem evK_bm (b : Bmt) (o : E) (es : Es) : evK P call σ (.bm b o es) S k = evK P call σ o S fun x S1 => if recv S1 b x = true then evsK P call σ es S1 fun ds S2 => rK (bmeth S2 b x ds) k else .bad := by
  unfold evK evsK; rw [ev, rK_bind]
  congr 1; funext x S1
  split
  · rw [rK_bind]
  · rfl
theorem evK_isi (a : E) (t : Ity) : evK P call σ (.isi a t) S k = evK P call σ a S fun x S1 => optK (isA S1 t x) fun b => k (.bl b) S1 := by
  unfold evK; rw [ev, rK_bind]
  congr 1; funext x S1
  unfold optK; cases isA S1 t x <;> rfl
theorem evK_enum (a : E) : evK P call σ (.enum a) S k = evK P call σ a S fun x S1 => rK (enumS x S1) k := by
  unfold evK; rw [ev, rK_bind]
theorem evK_vals (m : Bool) (a : E) : evK P call σ (.vals m a) S k = evK P call σ a S fun x S1 => optK (dctOf S1 x) fun kvs => rK (mkL m (kvs.map (·.2)) S1) k := by
  unfold evK; rw [ev, rK_bind]
  congr 1; funext x S1
  cases dctOf S1 x <;> rfl
theorem evK_lrng (m : Bool) (a : E) : evK P call σ (.lrng m a) S k = evK P call σ a S fun x S1 => rK (lrngS m x S1) k := by
  unfold evK; rw [ev, rK_bind]
theorem enumS_vl (xs : List D) : enumS (.vl xs) S = .ok (.vl (enumD 0 xs)) S := rfl
theorem lrngS_int (m : Bool) (n : Int) : lrngS m (.int n) S = if -4096 ≤ n ∧ n ≤ 4096 then mkL m (rangeD n.toNat) S else .bad := rfl
/-- a comprehension's turn -/
def lcT (P : Prog) (call : Fun → List D → Sto → O) (σ : Slots) (ts : List Nat) (cond : Es) (elt : E) (x : D) (S2 : Sto) : R (Option D) := match bindT ts x (wipeD σ ts) with
  | none => .bad
  | some σ' => (evc P call σ' cond S2).bind fun b S3 => if b then (ev P call σ' elt S3).bind fun y S4 => .ok (some y) S4 else .ok none S3
theorem evK_lc (m : Bool) (ts : List Nat) (it : E) (cond : Es) (elt : E) : evK P call σ (.lc m ts it cond elt) S k = evK P call σ it S fun d S1 => optK (itemsOf it.isVar it.pureIt S1 d) fun xs =>
    rK (lcGo (lcT P call σ ts cond elt) (isDct S1 d) d xs xs (lock S1 d) []) fun ys S2 => optK (unlock S1 S2 d) fun S3 => rK (mkL m ys S3) k := by
  unfold evK; rw [ev, rK_bind]
  congr 1; funext d S1
  unfold optK
  cases itemsOf it.isVar it.pureIt S1 d with
  | none => rfl
  | some xs =>
    show rK (R.bind _ _) _ = _
    rw [rK_bind]
    dsimp only
    congr 1; funext ys S2
    cases unlock S1 S2 d <;> rfl
theorem evsK_nil (k : List D → Sto → O) : evsK P call σ .nil S k = k [] S := by unfold evsK; rw [evs]; rfl
theorem evsK_cons (e : E) (r : Es) (k : List D → Sto → O) : evsK P call σ (.cons e r) S k = evK P call σ e S fun d S1 => evsK P call σ r S1 fun ds S2 => k (d :: ds) S2 := by
  unfold evK evsK; rw [evs, rK_bind]
  congr 1; funext d S1
  rw [rK_bind]; rfl
theorem evcK_nil (k : Bool → Sto → O) : evcK P call σ .nil S k = k true S := by unfold evcK; rw [evc]; rfl
theorem evcK_cons (e : E) (r : Es) (k : Bool → Sto → O) : evcK P call σ (.cons e r) S k = evK P call σ e S fun d S1 => blK d (evcK P call σ r S1 k) (k false S1) := by
  unfold evK evcK; rw [evc, rK_bind]
  congr 1; funext d S1
  unfold blK; cases d with
  | bl b => cases b <;> rfl
  | _ => rfl
/-! ### statements -/
theorem exs_nil : exs P call .nil σ S = .nx σ S := by rw [exs]
theorem exs_cons (c : C) (r : Cs) : exs P call (.cons c r) σ S = oK (ex P call c σ S) fun σ S => exs P call r σ S := by
  rw [exs]
  unfold oK; cases ex P call c σ S <;> rfl
theorem ex_expr (e : E) : ex P call (.expr e) σ S = evK P call σ e S fun _ S1 => .nx σ S1 := by
  rw [ex]; unfold evK; cases ev P call σ e S <;> rfl
theorem ex_asg (t : Tg) (e : E) : ex P call (.asg t e) σ S = evK P call σ e S fun d S1 => store P call σ t d S1 := by
  rw [ex]; unfold evK; cases ev P call σ e S <;> rfl
theorem ex_ret (e : E) : ex P call (.ret e) σ S = evK P call σ e S fun d S1 => .rt d S1 := by
  rw [ex]; unfold evK; cases ev P call σ e S <;> rfl
theorem ex_ifs (c : E) (a b : Cs) : ex P call (.ifs c a b) σ S = evK P call σ c S fun d S1 => blK d (exs P call a σ S1) (exs P call b σ S1) := by
  rw [ex]; unfold evK blK; cases ev P call σ c S with
  | ok d S1 =>
    cases d <;> first | rfl | skip
    rename_i b; cases b <;> rfl
  | _ => rfl
theorem ex_raise (x : Str) : ex P call (.raise x) σ S = if P.exc.contains x = true then .exc x S else .bad := by rw [ex]
theorem ex_any : ex P call .any σ S = .bad := by rw [ex]
theorem ex_cont : ex P call .cont σ S = .ct σ S := by rw [ex]
theorem ex_pass : ex P call .pass σ S = .nx σ S := by rw [ex]
theorem ex_fors (ts : List Nat) (it : E) (b : Cs) : ex P call (.fors ts it b) σ S = evK P call σ it S fun d S1 => optK (itemsOf it.isVar it.pureIt S1 d) fun xs =>
    unO S1 d (foGo ts (fun σ' S2 => exs P call b σ' S2) (isDct S1 d) d xs xs σ (lock S1 d)) := by
  rw [ex]; unfold evK optK
  cases ev P call σ it S with
  | ok d S1 =>
    simp only [rK]
    cases itemsOf it.isVar it.pureIt S1 d <;> rfl
  | _ => rfl
theorem ex_tryw (b : Cs) : ex P call (.tryw b) σ S = if P.whi = true then tryO P.exc (exs P call b σ S) else .bad := by
  rw [ex]
theorem tryO_nx (es : List Str) (σ : Slots) (S : Sto) : tryO es (.nx σ S) = .nx σ S := rfl
theorem tryO_rt (es : List Str) (d : D) (S : Sto) : tryO es (.rt d S) = .rt d S := rfl
theorem tryO_exc (es : List Str) (x : Str) (S : Sto) : tryO es (.exc x S) = if es.contains x = true then .rt (refD x) S else .bad := rfl
theorem tryO_ite (es : List Str) (c : Prop) [Decidable c] (a b : O) : tryO es (if c then a else b) = if c then tryO es a else tryO es b := by split <;> rfl
theorem tryO_congr {es : List Str} {o o' : O} (h : o = o') : tryO es o = tryO es o' := by rw [h]
theorem store_name (i : Nat) (d : D) : store P call σ (.name i) d S = .nx (σ.set i (some d)) S := rfl
theorem store_names (is : List Nat) (xs : List D) : store P call σ (.names is) (.tup xs) S = optK (setAll is xs σ) fun σ' => .nx σ' S := by
  unfold store optK
  dsimp only
  cases setAll is xs σ <;> rfl
theorem store_sub (o i : E) (d : D) : store P call σ (.sub o i) d S = evK P call σ o S fun x S1 => evK P call σ i S1 fun y S2 => optK (subSet S2 x y d) fun S3 => .nx σ S3 := by
  unfold store evK optK
  cases h1 : ev P call σ o S with
  | ok x S1 =>
    cases h2 : ev P call σ i S1 with
    | ok y S2 => cases h3 : subSet S2 x y d <;> simp [R.bind, rK, h1, h2, h3]
    | _ => simp [R.bind, rK, h1, h2]
  | _ => simp [R.bind, rK, h1]
theorem store_fld (o : E) (f : Str) (d : D) : store P call σ (.fld o f) d S = evK P call σ o S fun x S1 => optK (fldSet P S1 x f d) fun S3 => .nx σ S3 := by
  unfold store evK optK
  cases h1 : ev P call σ o S with
  | ok x S1 => cases h3 : fldSet P S1 x f d <;> simp [R.bind, rK, h1, h3]
  | _ => simp [R.bind, rK, h1]
theorem ex_augN (i : Nat) (e : E) : ex P call (.aug (.name i) e) σ S = evK P call σ (.var i) S fun x S1 => evK P call σ e S1 fun y S2 => optK (augI x y) fun z => .nx (σ.set i (some z)) S2 := by
  rw [ex]; unfold evK optK
  cases h1 : ev P call σ (.var i) S with
  | ok x S1 =>
    cases h2 : ev P call σ e S1 with
    | ok y S2 => cases h3 : augI x y <;> simp [R.bind, rK, h1, h2, h3]
    | _ => simp [R.bind, rK, h1, h2]
  | _ => simp [R.bind, rK, h1]
theorem ex_augS (o i : E) (e : E) : ex P call (.aug (.sub o i) e) σ S = evK P call σ o S fun x S1 => evK P call σ i S1 fun k S2 => optK (augGet S2 x k) fun u => evK P call σ e S2 fun y S3 => optK (augI u y) fun z => optK (subSet S3 x k z) fun S4 => .nx σ S4 := by
  rw [ex]; unfold evK optK
  cases h1 : ev P call σ o S with
  | ok x S1 =>
    cases h2 : ev P call σ i S1 with
    | ok y S2 =>
      cases h3 : augGet S2 x y with
      | none => simp [R.bind, rK, h1, h2, h3]
      | some u =>
        cases h4 : ev P call σ e S2 with
        | ok v S3 =>
          cases h5 : augI u v with
          | none => simp [R.bind, rK, h1, h2, h3, h4, h5]
          | some z => cases h6 : subSet S3 x y z <;> simp [R.bind, rK, h1, h2, h3, h4, h5, h6]
        | _ => simp [R.bind, rK, h1, h2, h3, h4]
    | _ => simp [R.bind, rK, h1, h2]
  | _ => simp [R.bind, rK, h1]
/-! ### statements, what follows being a function -/
def exK (P : Prog) (call : Fun → List D → Sto → O) (c : C) (σ : Slots) (S : Sto) (kn : Slots → Sto → O) : O := oK (ex P call c σ S) kn
def exsK (P : Prog) (call : Fun → List D → Sto → O) (c : Cs) (σ : Slots) (S : Sto) (kn : Slots → Sto → O) : O := oK (exs P call c σ S) kn
def stK (P : Prog) (call : Fun → List D → Sto → O) (σ : Slots) (t : Tg) (d : D) (S : Sto) (kn : Slots → Sto → O) : O := oK (store P call σ t d S) kn
variable {kn : Slots → Sto → O}
theorem exs_K (c : Cs) : exs P call c σ S = exsK P call c σ S fun σ S => .nx σ S := by
  unfold exsK oK; cases exs P call c σ S <;> rfl
theorem exsK_nil : exsK P call .nil σ S kn = kn σ S := by unfold exsK; rw [exs_nil]; rfl
theorem exsK_cons (c : C) (r : Cs) : exsK P call (.cons c r) σ S kn = exK P call c σ S fun σ S => exsK P call r σ S kn := by
  unfold exsK exK; rw [exs_cons, oK_oK]
theorem exK_expr (e : E) : exK P call (.expr e) σ S kn = evK P call σ e S fun _ S1 => kn σ S1 := by unfold exK; rw [ex_expr, oK_evK]; rfl
theorem exK_asg (t : Tg) (e : E) : exK P call (.asg t e) σ S kn = evK P call σ e S fun d S1 => stK P call σ t d S1 kn := by unfold exK stK; rw [ex_asg, oK_evK]
theorem exK_ret (e : E) : exK P call (.ret e) σ S kn = evK P call σ e S fun d S1 => .rt d S1 := by unfold exK; rw [ex_ret, oK_evK]; rfl
theorem exK_ifs (c : E) (a b : Cs) : exK P call (.ifs c a b) σ S kn = evK P call σ c S fun d S1 => blK d (exsK P call a σ S1 kn) (exsK P call b σ S1 kn) := by
  unfold exK exsK; rw [ex_ifs, oK_evK]
  congr 1; funext d S1
  rw [oK_blK]
theorem exK_raise (x : Str) : exK P call (.raise x) σ S kn = if P.exc.contains x = true then .exc x S else .bad := by unfold exK; rw [ex_raise]; split <;> rfl
theorem exK_any : exK P call .any σ S kn = .bad := by unfold exK; rw [ex_any]; rfl
theorem exK_cont : exK P call .cont σ S kn = .ct σ S := by unfold exK; rw [ex_cont]; rfl
theorem exK_pass : exK P call .pass σ S kn = kn σ S := by unfold exK; rw [ex_pass]; rfl
/-- a for's turns -/
def forT (P : Prog) (call : Fun → List D → Sto → O) (b : Cs) (σ : Slots) (S : Sto) : O := exs P call b σ S
def forK (P : Prog) (call : Fun → List D → Sto → O) (ts : List Nat) (b : Cs) (S1 : Sto) (d : D) (xs : List D) (σ : Slots) (kn : Slots → Sto → O) : O := oK (unO S1 d (foGo ts (forT P call b) (isDct S1 d) d xs xs σ (lock S1 d))) kn
theorem exK_fors (ts : List Nat) (it : E) (b : Cs) : exK P call (.fors ts it b) σ S kn = evK P call σ it S fun d S1 => optK (itemsOf it.isVar it.pureIt S1 d) fun xs => forK P call ts b S1 d xs σ kn := by
  unfold exK forK; rw [ex_fors, oK_evK]
  congr 1; funext d S1
  rw [oK_optK]; rfl
theorem exK_tryw (b : Cs) : exK P call (.tryw b) σ S kn = if P.whi = true then oK (tryO P.exc (exsK P call b σ S fun σ S => .nx σ S)) kn else .bad := by
  unfold exK
  rw [ex_tryw, exs_K]
  split <;> rfl
theorem exK_augN (i : Nat) (e : E) : exK P call (.aug (.name i) e) σ S kn = evK P call σ (.var i) S fun x S1 => evK P call σ e S1 fun y S2 => optK (augI x y) fun z => kn (σ.set i (some z)) S2 := by
  unfold exK; rw [ex_augN, oK_evK]
  congr 1; funext x S1
  rw [oK_evK]
  congr 1; funext y S2
  rw [oK_optK]; rfl
theorem exK_augS (o i : E) (e : E) : exK P call (.aug (.sub o i) e) σ S kn = evK P call σ o S fun x S1 => evK P call σ i S1 fun k S2 => optK (augGet S2 x k) fun u => evK P call σ e S2 fun y S3 => optK (augI u y) fun z => optK (subSet S3 x k z) fun S4 => kn σ S4 := by
  unfold exK; rw [ex_augS, oK_evK]
  congr 1; funext x S1
  rw [oK_evK]
  congr 1; funext y S2
  rw [oK_optK]
  congr 1; funext u
  rw [oK_evK]
  congr 1; funext v S3
  rw [oK_optK]
  congr 1; funext z
  rw [oK_optK]; rfl
theorem ex_augF (o : E) (f : Str) (e : E) : ex P call (.aug (.fld o f) e) σ S = oK (evK P call σ o S fun x S1 => optK (fldGet P S1 x f) fun u => evK P call σ e S1 fun y S2 => optK (augI u y) fun z => optK (fldSet P S2 x f z) fun S3 => .nx σ S3) fun σ S => .nx σ S := by
  rw [ex]
  unfold evK
  cases ev P call σ o S with
  | ok x S1 =>
    simp only [R.bind, rK]
    cases fldGet P S1 x f with
    | none => rfl
    | some u =>
      simp only [optK]
      cases ev P call σ e S1 with
      | ok y S2 =>
        simp only [R.bind, rK]
        cases augI u y with
        | none => rfl
        | some z =>
          simp only
          cases fldSet P S2 x f z <;> rfl
      | _ => rfl
  | _ => rfl
theorem exK_augF (o : E) (f : Str) (e : E) : exK P call (.aug (.fld o f) e) σ S kn = evK P call σ o S fun x S1 => optK (fldGet P S1 x f) fun u => evK P call σ e S1 fun y S2 => optK (augI u y) fun z => optK (fldSet P S2 x f z) fun S3 => kn σ S3 := by
  unfold exK; rw [ex_augF, oK_evK, oK_evK]
  congr 1; funext x S1
  rw [oK_optK, oK_optK]
  congr 1; funext u
  rw [oK_evK, oK_evK]
  congr 1; funext y S2
  rw [oK_optK, oK_optK]
  congr 1; funext z
  rw [oK_optK, oK_optK]; rfl
theorem stK_name (i : Nat) (d : D) : stK P call σ (.name i) d S kn = kn (σ.set i (some d)) S := rfl
theorem stK_names (is : List Nat) (xs : List D) : stK P call σ (.names is) (.tup xs) S kn = optK (setAll is xs σ) fun σ' => kn σ' S := by
  unfold stK; rw [store_names, oK_optK]; rfl
theorem stK_star (i j : Nat) (d : D) : stK P call σ (.star i j) d S kn = oK (starS i j σ d S) kn := rfl
theorem starS_vl (i j : Nat) (x : D) (xs : List D) : starS i j σ (.vl (x :: xs)) S = if xs.length ≤ 4096 then .nx ((σ.set i (some x)).set j (some (.vl xs))) S else .bad := rfl
theorem stK_sub (o i : E) (d : D) : stK P call σ (.sub o i) d S kn = evK P call σ o S fun x S1 => evK P call σ i S1 fun y S2 => optK (subSet S2 x y d) fun S3 => kn σ S3 := by
  unfold stK; rw [store_sub, oK_evK]
  congr 1; funext x S1
  rw [oK_evK]
  congr 1; funext y S2
  rw [oK_optK]; rfl
theorem stK_fld (o : E) (f : Str) (d : D) : stK P call σ (.fld o f) d S kn = evK P call σ o S fun x S1 => optK (fldSet P S1 x f d) fun S3 => kn σ S3 := by
  unfold stK; rw [store_fld, oK_evK]
  congr 1; funext x S1
  rw [oK_optK]; rfl
theorem callN_K (n : Nat) (F : Fun) (ds : List D) : callN P (n + 1) F ds S = exsK P (callN P n) F.body (start F ds) S fun σ S => .nx σ S := by
  rw [callN, exs_K]
end
/-! ### only the head is looked at -/
theorem optK_congr {α : Type} {o o' : Option α} {k : α → O} (h : o = o') : optK o k = optK o' k := by rw [h]
theorem rK_congr {α : Type} {o o' : R α} {k : α → Sto → O} (h : o = o') : rK o k = rK o' k := by rw [h]
theorem varK_congr {o o' : Option (Option D)} {k : D → O} (h : o = o') : varK o k = varK o' k := by rw [h]
theorem blK_congr {d d' : D} {a b : O} (h : d = d') : blK d a b = blK d' a b := by rw [h]
theorem negK_congr {d d' : D} {S : Sto} {k : D → Sto → O} (h : d = d') : negK d S k = negK d' S k := by rw [h]
theorem notK_congr {d d' : D} {S : Sto} {k : D → Sto → O} (h : d = d') : notK d S k = notK d' S k := by rw [h]
theorem fnK_congr {d d' : D} {k : Str → O} (h : d = d') : fnK d k = fnK d' k := by rw [h]
theorem oK_congr {d d' : O} {k : Slots → Sto → O} (h : d = d') : oK d k = oK d' k := by rw [h]
section
variable {S : Sto}
/-! ### what is known of a value -/
theorem idx_tup (xs : List D) (k : D) : index S (.tup xs) k = idxT S xs k := rfl
theorem idx_vl (xs : List D) (k : D) : index S (.vl xs) k = idxT S xs k := rfl
theorem idx_vd (xs : List (D × D)) (k : D) : index S (.vd xs) k = idxD S xs k := rfl
theorem idx_loc_lst {l : Nat} {xs : List D} (h : S[l]? = some (.lst xs)) (k : D) : index S (.loc l) k = idxT S xs k := by
  simp [index, idxO, viewOf, lstOf, h]
theorem idx_loc_dct {l : Nat} {xs : List (D × D)} (h : S[l]? = some (.dct xs)) (k : D) : index S (.loc l) k = idxD S xs k := by
  simp [index, idxO, viewOf, lstOf, dctOf, h]
theorem idx_loc_fdct {l : Nat} {xs : List (D × D)} (h : S[l]? = some (.fdct xs)) (k : D) : index S (.loc l) k = idxD S xs k := by
  simp [index, idxO, viewOf, lstOf, dctOf, h]
theorem idxT_int (xs : List D) (i : Int) : idxT S xs (.int i) = if 0 ≤ i then (if i < xs.length then .ok (xs.getD i.toNat .non) S else .bad) else if -(xs.length : Int) ≤ i then .ok (xs.getD (i + xs.length).toNat .non) S else .bad := by
  unfold idxT atI L2.ixN
  by_cases h : 0 ≤ i
  · by_cases h2 : i < xs.length <;> simp [h, h2]
  · by_cases h2 : -(xs.length : Int) ≤ i <;> simp [h, h2]
theorem sub_lst {l : Nat} {xs : List D} (h : S[l]? = some (.lst xs)) (j : Int) (d : D) : subSet S (.loc l) (.int j) d = (atI xs.length j).map fun n => S.set l (.lst (xs.set n d)) := by
  unfold subSet
  simp only [h]
  cases atI xs.length j <;> rfl
theorem sub_dct {l : Nat} {kvs : List (D × D)} (h : S[l]? = some (.dct kvs)) (k : D) (d : D) : subSet S (.loc l) k d = if keysOk kvs k = true ∧ kvs.length < 4096 then some (S.set l (.dct (dput kvs k d))) else none := by
  unfold subSet
  simp [h]
theorem aug_lst {l : Nat} {xs : List D} (h : S[l]? = some (.lst xs)) (j : Int) : augGet S (.loc l) (.int j) = if 0 ≤ j ∧ j < 4096 then xs[j.toNat]? else none := by
  simp [augGet, h]
theorem augI_int (i j : Int) : augI (.int i) (.int j) = some (.int (i + j)) := rfl
theorem flat_non (n : Nat) : flat (n + 1) .non = true := by rw [flat] <;> simp
theorem flat_bl (n : Nat) (b : Bool) : flat (n + 1) (.bl b) = true := by rw [flat] <;> simp
theorem flat_int (n : Nat) (b : Int) : flat (n + 1) (.int b) = true := by rw [flat] <;> simp
theorem flat_str (n : Nat) (b : Str) : flat (n + 1) (.str b) = true := by rw [flat] <;> simp
theorem flat_tup (n : Nat) (xs : List D) : flat (n + 1) (.tup xs) = flats n xs := by rw [flat]
theorem flat_vl (n : Nat) (xs : List D) : flat (n + 1) (.vl xs) = flats n xs := by rw [flat]
theorem flats_nil (n : Nat) : flats n [] = true := by rw [flats]
theorem flats_cons (n : Nat) (x : D) (xs : List D) : flats n (x :: xs) = (flat n x && flats n xs) := by rw [flats]
theorem flats_app (n : Nat) (x : List D) (xs : List D) : flats n (x ++ xs) = (flats n x && flats n xs) := by
  induction x with
  | nil => rw [flats, List.nil_append]; rfl
  | cons y ys ih => rw [List.cons_append, flats, flats, ih, Bool.and_assoc]
theorem flats_map {α : Type} {f : α → D} {n : Nat} : ∀ {xs : List α}, (∀ x ∈ xs, flat n (f x) = true) → flats n (xs.map f) = true
  | [], _ => by rw [List.map_nil, flats]
  | x :: xs, h => by
    rw [List.map_cons, flats, h x List.mem_cons_self, flats_map fun y hy => h y (List.mem_cons_of_mem _ hy)]; rfl
theorem eqD_flat {a b : D} (ha : flat 10 a = true) (hb : flat 10 b = true) : eqD S a b = some (eqv a b) := by
  have t : ∀ d : D, flat 10 d = true → topOf S d = d := fun d h => by
    cases d <;> first | rfl | (simp [flat] at h)
  unfold eqD eqT
  rw [t a ha, t b hb, ha, hb]; rfl
theorem eqD_bl (a b : Bool) : eqD S (.bl a) (.bl b) = some (a == b) := by
  rw [eqD_flat (flat_bl 9 a) (flat_bl 9 b), eqv]
theorem eqD_non : eqD S .non .non = some true := by
  rw [eqD_flat (flat_non 9) (flat_non 9), eqv]
mutual
/-- data without truths (and places, functions, dicts) -/
def nb : D → Bool
  | .non => true
  | .int _ => true
  | .str _ => true
  | .tup xs => nbs xs
  | .vl xs => nbs xs
  | _ => false
def nbs : List D → Bool
  | [] => true
  | x :: xs => nb x && nbs xs
end
theorem nb_non : nb .non = true := by rw [nb]
theorem nb_int (i : Int) : nb (.int i) = true := by rw [nb]
theorem nb_str (i : Str) : nb (.str i) = true := by rw [nb]
theorem nb_bl (i : Bool) : nb (.bl i) = false := by rw [nb] <;> simp
theorem nb_tup (xs : List D) : nb (.tup xs) = nbs xs := by rw [nb]
theorem nb_vl (xs : List D) : nb (.vl xs) = nbs xs := by rw [nb]
theorem nbs_nil : nbs [] = true := by rw [nbs]
theorem nbs_cons (x : D) (xs : List D) : nbs (x :: xs) = (nb x && nbs xs) := by rw [nbs]
theorem noLoc_non : noLoc .non = true := by rw [noLoc] <;> simp
theorem noLoc_bl (b : Bool) : noLoc (.bl b) = true := by rw [noLoc] <;> simp
theorem noLoc_int (b : Int) : noLoc (.int b) = true := by rw [noLoc] <;> simp
theorem noLoc_str (b : Str) : noLoc (.str b) = true := by rw [noLoc] <;> simp
theorem noLoc_tup (xs : List D) : noLoc (.tup xs) = noLocs xs := by rw [noLoc]
theorem noLoc_vl (xs : List D) : noLoc (.vl xs) = noLocs xs := by rw [noLoc]
theorem noLoc_vd (xs : List (D × D)) : noLoc (.vd xs) = noLocK xs := by rw [noLoc]
theorem noLocs_nil : noLocs [] = true := by rw [noLocs]
theorem noLocs_cons (x : D) (xs : List D) : noLocs (x :: xs) = (noLoc x && noLocs xs) := by rw [noLocs]
theorem noLocs_map {α : Type} {f : α → D} : ∀ {xs : List α}, (∀ x ∈ xs, noLoc (f x) = true) → noLocs (xs.map f) = true
  | [], _ => by rw [List.map_nil, noLocs]
  | x :: xs, h => by
    rw [List.map_cons, noLocs, h x List.mem_cons_self, noLocs_map fun y hy => h y (List.mem_cons_of_mem _ hy)]; rfl
mutual
theorem eqv_nb : ∀ (a b : D), nb a = true → nb b = true → eqv a b = decide (a = b)
  | .non, b, _, h => by cases b <;> simp [eqv, nb] at h ⊢
  | .int i, b, _, h => by cases b <;> simp [eqv, nb] at h ⊢; rfl
  | .str i, b, _, h => by cases b <;> simp [eqv, nb] at h ⊢; rfl
  | .tup xs, b, h1, h => by
    cases b with
    | tup ys =>
      simp only [eqv, nb] at h h1 ⊢
      rw [eqvs_nb xs ys h1 h]; simp
    | _ => simp [eqv]
  | .vl xs, b, h1, h => by
    cases b with
    | vl ys =>
      simp only [eqv, nb] at h h1 ⊢
      rw [eqvs_nb xs ys h1 h]; simp
    | _ => simp [eqv]
  | .bl _, _, h, _ => by simp [nb] at h
  | .fn _, _, h, _ => by simp [nb] at h
  | .vd _, _, h, _ => by simp [nb] at h
  | .loc _, _, h, _ => by simp [nb] at h
theorem eqvs_nb : ∀ (a b : List D), nbs a = true → nbs b = true → eqvs a b = decide (a = b)
  | [], [], _, _ => by simp [eqvs]
  | [], _ :: _, _, _ => by simp [eqvs]
  | _ :: _, [], _, _ => by simp [eqvs]
  | x :: xs, y :: ys, h1, h2 => by
    simp only [nbs, Bool.and_eq_true] at h1 h2
    simp only [eqvs]
    rw [eqv_nb x y h1.1 h2.1, eqvs_nb xs ys h1.2 h2.2]
    simp
end
theorem nbs_map {α : Type} {f : α → D} : ∀ {xs : List α}, (∀ x ∈ xs, nb (f x) = true) → nbs (xs.map f) = true
  | [], _ => by rw [List.map_nil, nbs]
  | x :: xs, h => by
    rw [List.map_cons, nbs, h x List.mem_cons_self, nbs_map fun y hy => h y (List.mem_cons_of_mem _ hy)]; rfl
theorem mkL_false (xs : List D) : mkL false xs S = .ok (.vl xs) S := rfl
theorem mkL_true (xs : List D) : mkL true xs S = .ok (.loc S.length) (S ++ [.lst xs]) := rfl
theorem mkD_false (xs : List (D × D)) : mkD false xs S = .ok (.vd xs) S := rfl
theorem mkD_true (xs : List (D × D)) : mkD true xs S = .ok (.loc S.length) (S ++ [.dct xs]) := rfl
/-! ### behind a call -/
theorem same_refl (o : Ob) : Ob.same o o = true := by
  cases o with
  | lst xs => exact (D.sames_iff _ _).mpr rfl
  | dct xs => exact (D.sameK_iff _ _).mpr rfl
  | fdct xs => exact (D.sameK_iff _ _).mpr rfl
  | ins c f =>
    simp only [Ob.same, beq_self_eq_true, Bool.true_and]
    exact (D.sames_iff _ _).mpr rfl
theorem kept_app : ∀ (S g : Sto), kept S (S ++ g) = true
  | [], _ => by rw [kept]
  | o :: r, g => by
    rw [List.cons_append, kept, same_refl, kept_app r g, Bool.or_true]; rfl
theorem kept_refl (S : Sto) : kept S S = true := by simpa using kept_app S []
theorem kept_cons {o u : Ob} {r v : Sto} (h : u.noLoc = true) (k : kept r v = true) : kept (o :: r) (u :: v) = true := by
  rw [kept, h, k]; simp
theorem fin_val {fz : Bool} {S S' g : Sto} {d : D} (k : kept S (S' ++ g) = true) (hl : S'.length = S.length) (n : noLoc d = true) : fin fz S d (S' ++ g) = .ok d S' := by
  unfold fin
  rw [if_pos k, if_pos n, ← hl, List.take_left']
  rfl
theorem fin_val0 {fz : Bool} {S S' : Sto} {d : D} (k : kept S S' = true) (hl : S'.length = S.length) (n : noLoc d = true) : fin fz S d S' = .ok d S' := by
  unfold fin
  rw [if_pos k, if_pos n, ← hl, List.take_length]
theorem callF_rt {call : Fun → List D → Sto → O} {fz : Bool} {F : Fun} {ds : List D} {d : D} {S' : Sto} (hd : F.dfl = []) (h : call F ds S = .rt d S') : callF call fz F ds S = fin fz S d S' := by
  unfold callF
  rw [hd, List.drop_nil, List.append_nil, h]; rfl
theorem callF_nx {call : Fun → List D → Sto → O} {fz : Bool} {F : Fun} {ds : List D} {σ : Slots} {S' : Sto} (hd : F.dfl = []) (h : call F ds S = .nx σ S') : callF call fz F ds S = fin fz S .non S' := by
  unfold callF
  rw [hd, List.drop_nil, List.append_nil, h]; rfl
theorem callF_exc {call : Fun → List D → Sto → O} {fz : Bool} {F : Fun} {ds : List D} {x : Str} {S' : Sto} (hd : F.dfl = []) (h : call F ds S = .exc x S') : callF call fz F ds S = .exc x S' := by
  unfold callF
  rw [hd, List.drop_nil, List.append_nil, h]; rfl
/-- a function that only tells -/
theorem callF_pure {call : Fun → List D → Sto → O} {fz : Bool} {F : Fun} {ds : List D} {d : D} (hd : F.dfl = []) (h : call F ds S = .rt d S) (n : noLoc d = true) : callF call fz F ds S = .ok d S := by
  rw [callF_rt hd h, fin_val0 (kept_refl S) rfl n]
theorem callF_unit {call : Fun → List D → Sto → O} {fz : Bool} {F : Fun} {ds : List D} {σ : Slots} (hd : F.dfl = []) (h : call F ds S = .nx σ S) : callF call fz F ds S = .ok .non S := by
  rw [callF_nx hd h, fin_val0 (kept_refl S) rfl rfl]
theorem idxT_at {xs : List D} {i : Nat} (h : i < xs.length) : idxT S xs (.int (i : Int)) = .ok (xs.getD i .non) S := by
  unfold idxT
  have : atI xs.length (i : Int) = some i := by
    unfold atI L2.ixN
    rw [if_pos (Int.natCast_nonneg i), if_pos (by omega)]
    rfl
  simp only [this]
theorem len_tup (m : Bool) (xs : List D) : builtin m S .len (.tup xs) = .ok (.int xs.length) S := rfl
theorem len_vl (m : Bool) (xs : List D) : builtin m S .len (.vl xs) = .ok (.int xs.length) S := rfl
theorem len_vd (m : Bool) (xs : List (D × D)) : builtin m S .len (.vd xs) = .ok (.int xs.length) S := rfl
theorem len_str (m : Bool) (x : Str) (h : x.length ≤ 100000) : builtin m S .len (.str x) = .ok (.int x.length) S := by
  show lenD S (.str x) = _
  unfold lenD
  dsimp only
  rw [if_pos h]
theorem bin_sub (m : Bool) (i j : Int) : binop m S .sub (.int i) (.int j) = .ok (.int (i - j)) S := rfl
theorem bin_add (m : Bool) (i j : Int) : binop m S .add (.int i) (.int j) = .ok (.int (i + j)) S := rfl
theorem bin_mul (m : Bool) {i j : Int} (h : mulOk i j = true) : binop m S .mul (.int i) (.int j) = .ok (.int (i * j)) S := by
  simp [binop, mulD, h]
theorem bin_fdiv (m : Bool) {i j : Int} (h : 0 < j) (h2 : j < 1073741824) : binop m S .fdiv (.int i) (.int j) = .ok (.int (i / j)) S := by
  simp [binop, intop, h, h2]
theorem bin_mod (m : Bool) {i j : Int} (h : 0 < j) : binop m S .mod (.int i) (.int j) = .ok (.int (i % j)) S := by
  simp [binop, intop, h]
theorem bin_pow (m : Bool) {i j : Int} (h : 0 ≤ j) (h2 : j ≤ 1000) (h3 : i.natAbs < 2 ^ 64) : binop m S .pow (.int i) (.int j) = .ok (.int (i ^ j.toNat)) S := by
  simp only [binop, intop, h, h2, h3, decide_true, Bool.and_self, if_true]
theorem cmp_lt (i j : Int) : cmpop S .lt (.int i) (.int j) = some (decide (i < j)) := rfl
theorem cmp_le (i j : Int) : cmpop S .le (.int i) (.int j) = some (decide (i ≤ j)) := rfl
theorem cmp_gt (i j : Int) : cmpop S .gt (.int i) (.int j) = some (decide (j < i)) := rfl
theorem cmp_ge (i j : Int) : cmpop S .ge (.int i) (.int j) = some (decide (j ≤ i)) := rfl
theorem cmp_eq (a b : D) : cmpop S .eq a b = eqD S a b := rfl
theorem cmp_ne (a b : D) : cmpop S .ne a b = (eqD S a b).map not := rfl
theorem cmp_in (a b : D) : cmpop S .isin a b = inD S a b := rfl
theorem cmp_nin (a b : D) : cmpop S .nin a b = (inD S a b).map not := rfl
theorem cmp_is (a b : D) : cmpop S .is a b = isOne a b := rfl
theorem cmp_isnt (a b : D) : cmpop S .isnt a b = (isOne a b).map not := rfl
/-! ### comprehensions -/
theorem R_of_K {α : Type} {r : R α} {a : α} {S : Sto} (h : ∀ k : α → Sto → O, rK r k = k a S) : r = .ok a S := by
  classical
  have h1 := h fun b S' => if b = a ∧ S' = S then .rt .non [] else .bad
  cases r with
  | ok b S' =>
    simp only [rK, and_self, if_true] at h1
    split at h1
    · rename_i h2; rw [h2.1, h2.2]
    · cases h1
  | exc x S' => simp [rK] at h1
  | bad => simp [rK] at h1
theorem R_exc_of_K {α : Type} {r : R α} {x : Str} {S : Sto} (h : ∀ k : α → Sto → O, rK r k = .exc x S) : r = .exc x S := by
  have h1 := h fun b S' => .bad
  cases r with
  | ok b S' => cases h1
  | exc y S' => cases h1; rfl
  | bad => cases h1
theorem lcT_K (P : Prog) (call : Fun → List D → Sto → O) (σ : Slots) (ts : List Nat) (cond : Es) (elt : E) (x : D) (k : Option D → Sto → O) :
    rK (lcT P call σ ts cond elt x S) k = optK (bindT ts x (wipeD σ ts)) fun σ' => evcK P call σ' cond S fun b S3 => if b = true then evK P call σ' elt S3 fun y S4 => k (some y) S4 else k none S3 := by
  unfold lcT optK evcK evK
  cases bindT ts x (wipeD σ ts) with
  | none => rfl
  | some σ' =>
    dsimp only
    rw [rK_bind]
    congr 1; funext b S3
    cases b
    · rfl
    · simp only [if_true]
      rw [rK_bind]; rfl
/-- no place of the store -/
def isV : D → Bool
  | .loc _ => false
  | _ => true
theorem lock_v {d : D} (h : isV d = true) : lock S d = S := by cases d <;> first | rfl | cases h
theorem unlock_v {d : D} {S' : Sto} (h : isV d = true) : unlock S S' d = some S' := by cases d <;> first | rfl | cases h
theorem unlock_tup (xs : List D) (S' : Sto) : unlock S S' (.tup xs) = some S' := rfl
theorem unlock_vl (xs : List D) (S' : Sto) : unlock S S' (.vl xs) = some S' := rfl
theorem unlock_vd (xs : List (D × D)) (S' : Sto) : unlock S S' (.vd xs) = some S' := rfl
theorem unlock_str (x : Str) (S' : Sto) : unlock S S' (.str x) = some S' := rfl
theorem str_len (x : Str) : x.cps.toList.length = x.length := by simp [PySem.Str.length]
theorem stays_v {d : D} (h : isV d = true) (k : Bool) (xs : List D) : stays k xs S d = true := by cases d <;> first | rfl | cases h
theorem lcGo_pure {f : D → Sto → R (Option D)} {k : Bool} {d : D} {all : List D} (g : D → Option D) (hs : stays k all S d = true) : ∀ (xs acc : List D), (∀ x ∈ xs, f x S = .ok (g x) S) → acc.length + xs.length ≤ 4096 →
    lcGo f k d all xs S acc = .ok (acc ++ xs.filterMap g) S
  | [], acc, _, _ => by rw [lcGo, if_pos hs]; simp
  | x :: xs, acc, h, hl => by
    rw [List.length_cons] at hl
    rw [lcGo, hs, h x List.mem_cons_self, if_pos (by simp; omega)]
    cases e : g x with
    | none =>
      dsimp only
      rw [lcGo_pure g hs xs acc (fun y hy => h y (List.mem_cons_of_mem _ hy)) (by omega), List.filterMap_cons, e]
    | some y =>
      dsimp only
      rw [lcGo_pure g hs xs (acc ++ [y]) (fun y hy => h y (List.mem_cons_of_mem _ hy)) (by rw [List.length_append, List.length_singleton]; omega), List.filterMap_cons, e]
      simp
/-- a comprehension that changes nothing -/
theorem lc_pure {f : D → Sto → R (Option D)} {d : D} {xs : List D} {K : List D → Sto → O} (g : D → Option D) (hv : isV d = true) (hl : xs.length ≤ 4096) (h : ∀ x ∈ xs, f x S = .ok (g x) S) :
    rK (lcGo f (isDct S d) d xs xs (lock S d) []) K = K (xs.filterMap g) S := by
  rw [lock_v hv, lcGo_pure g (stays_v hv _ _) xs [] h (by simpa using hl), rK_ok, List.nil_append]
theorem lc_map {f : D → Sto → R (Option D)} {d : D} {xs : List D} {K : List D → Sto → O} (g : D → D) (hv : isV d = true) (hl : xs.length ≤ 4096) (h : ∀ x ∈ xs, f x S = .ok (some (g x)) S) :
    rK (lcGo f (isDct S d) d xs xs (lock S d) []) K = K (xs.map g) S := by
  rw [lc_pure (fun x => some (g x)) hv hl h]
  congr 1
  induction xs with
  | nil => rfl
  | cons x xs ih => simp
theorem filterMap_enc {α : Type} {enc : α → D} {g : α → Option D} {h : D → Option D} : ∀ {l : List α}, (∀ a ∈ l, h (enc a) = g a) → (l.map enc).filterMap h = l.filterMap g
  | [], _ => rfl
  | a :: l, q => by
    rw [List.map_cons, List.filterMap_cons, List.filterMap_cons, q a List.mem_cons_self, filterMap_enc fun b hb => q b (List.mem_cons_of_mem _ hb)]
theorem lcGo_enc {α : Type} {f : D → Sto → R (Option D)} {k : Bool} {d : D} {all : List D} (enc : α → D) (g : α → Option D) (hs : stays k all S d = true) : ∀ (l : List α) (acc : List D), (∀ a ∈ l, f (enc a) S = .ok (g a) S) → acc.length + l.length ≤ 4096 →
    lcGo f k d all (l.map enc) S acc = .ok (acc ++ l.filterMap g) S
  | [], acc, _, _ => by rw [List.map_nil, lcGo, if_pos hs]; simp
  | x :: xs, acc, h, hl => by
    rw [List.length_cons] at hl
    rw [List.map_cons, lcGo, hs, h x List.mem_cons_self, if_pos (by simp; omega)]
    cases e : g x with
    | none =>
      dsimp only
      rw [lcGo_enc enc g hs xs acc (fun y hy => h y (List.mem_cons_of_mem _ hy)) (by omega), List.filterMap_cons, e]
    | some y =>
      dsimp only
      rw [lcGo_enc enc g hs xs (acc ++ [y]) (fun y hy => h y (List.mem_cons_of_mem _ hy)) (by rw [List.length_append, List.length_singleton]; omega), List.filterMap_cons, e]
      simp
/-- a comprehension over what stands for a list -/
theorem lc_enc {α : Type} {f : D → Sto → R (Option D)} {d : D} {l : List α} {enc : α → D} {K : List D → Sto → O} (g : α → D) (hv : isV d = true) (hl : l.length ≤ 4096) (h : ∀ a ∈ l, f (enc a) S = .ok (some (g a)) S) :
    rK (lcGo f (isDct S d) d (l.map enc) (l.map enc) (lock S d) []) K = K (l.map g) S := by
  rw [lock_v hv, lcGo_enc enc (fun a => some (g a)) (stays_v hv _ _) l [] h (by simpa using hl), rK_ok, List.nil_append]
  congr 1
  induction l with
  | nil => rfl
  | cons x xs ih => simp
theorem lc_encF {α : Type} {f : D → Sto → R (Option D)} {d : D} {l : List α} {enc : α → D} {K : List D → Sto → O} (p : α → Bool) (g : α → D) (hv : isV d = true) (hl : l.length ≤ 4096) (h : ∀ a ∈ l, f (enc a) S = .ok (if p a = true then some (g a) else none) S) :
    rK (lcGo f (isDct S d) d (l.map enc) (l.map enc) (lock S d) []) K = K ((l.filter p).map g) S := by
  rw [lock_v hv, lcGo_enc enc (fun a => if p a = true then some (g a) else none) (stays_v hv _ _) l [] h (by simpa using hl), rK_ok, List.nil_append]
  congr 1
  clear h hl
  induction l with
  | nil => rfl
  | cons x xs ih =>
    rw [List.filterMap_cons, List.filter_cons]
    cases p x <;> simp [ih]
theorem lit_le (k n : Nat) : ((no_index (@OfNat.ofNat Int k instOfNat)) ≤ (n : Int)) ↔ (OfNat.ofNat k : Nat) ≤ n := by
  show (Int.ofNat k ≤ Int.ofNat n) ↔ k ≤ n
  exact Int.ofNat_le
theorem le_lit (k n : Nat) : ((n : Int) ≤ (no_index (@OfNat.ofNat Int k instOfNat))) ↔ n ≤ (OfNat.ofNat k : Nat) := by
  show (Int.ofNat n ≤ Int.ofNat k) ↔ n ≤ k
  exact Int.ofNat_le
theorem lit_lt (k n : Nat) : ((no_index (@OfNat.ofNat Int k instOfNat)) < (n : Int)) ↔ (OfNat.ofNat k : Nat) < n := by
  show (Int.ofNat k < Int.ofNat n) ↔ k < n
  exact Int.ofNat_lt
theorem lt_lit (k n : Nat) : ((n : Int) < (no_index (@OfNat.ofNat Int k instOfNat))) ↔ n < (OfNat.ofNat k : Nat) := by
  show (Int.ofNat n < Int.ofNat k) ↔ n < k
  exact Int.ofNat_lt
/-- .. with a state that goes along -/
def mapSt {τ : Type} (g : τ → D → D × τ) : τ → List D → List D × τ
  | t, [] => ([], t)
  | t, x :: xs => ((g t x).1 :: (mapSt g (g t x).2 xs).1, (mapSt g (g t x).2 xs).2)
theorem mapSt_len {τ : Type} (g : τ → D → D × τ) : ∀ (t : τ) (xs : List D), (mapSt g t xs).1.length = xs.length
  | t, [] => rfl
  | t, x :: xs => by simp [mapSt, mapSt_len g]
theorem mapSt_all {τ : Type} {g : τ → D → D × τ} {p : D → Prop} (h : ∀ t x, p (g t x).1) : ∀ (t : τ) (xs : List D), ∀ y ∈ (mapSt g t xs).1, p y
  | t, [], y, hy => by simp [mapSt] at hy
  | t, x :: xs, y, hy => by
    rcases List.mem_cons.mp hy with e | hy
    · rw [e]; exact h t x
    · exact mapSt_all h _ xs y hy
theorem lcGo_st {τ : Type} {f : D → Sto → R (Option D)} {k : Bool} {d : D} {all : List D} (emb : τ → Sto) (g : τ → D → D × τ) (hs : ∀ t, stays k all (emb t) d = true) : ∀ (xs acc : List D) (t : τ), (∀ t, ∀ x ∈ xs, f x (emb t) = .ok (some (g t x).1) (emb (g t x).2)) → acc.length + xs.length ≤ 4096 →
    lcGo f k d all xs (emb t) acc = .ok (acc ++ (mapSt g t xs).1) (emb (mapSt g t xs).2)
  | [], acc, t, _, _ => by rw [lcGo, if_pos (hs t)]; simp [mapSt]
  | x :: xs, acc, t, h, hl => by
    rw [List.length_cons] at hl
    rw [lcGo, hs t, h t x List.mem_cons_self, if_pos (by simp; omega)]
    dsimp only
    rw [lcGo_st emb g hs xs (acc ++ [(g t x).1]) (g t x).2 (fun t y hy => h t y (List.mem_cons_of_mem _ hy)) (by rw [List.length_append, List.length_singleton]; omega)]
    simp [mapSt]
theorem lc_st {τ : Type} {f : D → Sto → R (Option D)} {d : D} {xs : List D} {K : List D → Sto → O} (emb : τ → Sto) (g : τ → D → D × τ) (t : τ) (he : S = emb t) (hv : isV d = true) (hl : xs.length ≤ 4096) (h : ∀ t, ∀ x ∈ xs, f x (emb t) = .ok (some (g t x).1) (emb (g t x).2)) :
    rK (lcGo f (isDct S d) d xs xs (lock S d) []) K = K (mapSt g t xs).1 (emb (mapSt g t xs).2) := by
  subst he
  rw [lock_v hv, lcGo_st emb g (fun t => stays_v hv _ _) xs [] t h (by simpa using hl), rK_ok, List.nil_append]
theorem items_tup (pv pu : Bool) (xs : List D) : itemsOf pv pu S (.tup xs) = some xs := rfl
theorem items_vl (pv pu : Bool) (xs : List D) : itemsOf pv pu S (.vl xs) = some xs := rfl
theorem items_str (pv pu : Bool) (x : Str) : itemsOf pv pu S (.str x) = some (x.cps.toList.map fun c => .str ⟨#[c]⟩) := rfl
theorem items_vd (pu : Bool) (xs : List (D × D)) : itemsOf true pu S (.vd xs) = some (xs.map (·.1)) := rfl
theorem all_vl (m : Bool) (xs : List D) : builtin m S .all (.vl xs) = (match allB xs with
    | some b => .ok (.bl b) S
    | none => .bad) := rfl
theorem any_vl (m : Bool) (xs : List D) : builtin m S .any (.vl xs) = (match anyB xs with
    | some b => .ok (.bl b) S
    | none => .bad) := rfl
theorem allB_map {α : Type} (f : α → Bool) : ∀ xs : List α, allB (xs.map fun x => D.bl (f x)) = some (xs.all f)
  | [] => rfl
  | x :: xs => by simp [allB, allB_map f xs]
theorem anyB_map {α : Type} (f : α → Bool) : ∀ xs : List α, anyB (xs.map fun x => D.bl (f x)) = some (xs.any f)
  | [] => rfl
  | x :: xs => by simp [anyB, anyB_map f xs]
theorem tuple_vl (m : Bool) (xs : List D) : builtin m S .tuple (.vl xs) = .ok (.tup xs) S := rfl
theorem list_tup (m : Bool) (xs : List D) : builtin m S .list (.tup xs) = mkL m xs S := rfl
theorem list_vl (m : Bool) (xs : List D) : builtin m S .list (.vl xs) = mkL m xs S := rfl
theorem range_int (m : Bool) (n : Int) : builtin m S .range (.int n) = if -4096 ≤ n ∧ n ≤ 4096 then .ok (.vl (rangeD n.toNat)) S else .bad := rfl
theorem slc_tup (xs : List D) (i j : Option Int) : sliceI S (.tup xs) i j = .ok (.tup (cutL xs i j)) S := rfl
theorem slc_vl (xs : List D) (i j : Option Int) : sliceI S (.vl xs) i j = .ok (.vl (cutL xs i j)) S := rfl
theorem cutO_nil : cutO [] = some none := rfl
theorem cutO_int (i : Int) : cutO [.int i] = some (some i) := rfl
theorem isA_non (t : Ity) : isA S t .non = some false := rfl
theorem isA_bl (t : Ity) (b : Bool) : isA S t (.bl b) = some (decide (t = .bool ∨ t = .int)) := rfl
theorem isA_int (t : Ity) (b : Int) : isA S t (.int b) = some (decide (t = .int)) := rfl
theorem isA_str (t : Ity) (b : Str) : isA S t (.str b) = some (decide (t = .str)) := rfl
theorem isA_tup (t : Ity) (b : List D) : isA S t (.tup b) = some (decide (t = .tuple)) := rfl
theorem isA_vl (t : Ity) (b : List D) : isA S t (.vl b) = some (decide (t = .list)) := rfl
theorem isA_vd (t : Ity) (b : List (D × D)) : isA S t (.vd b) = some (decide (t = .dict)) := rfl
theorem isOne_bl (a b : Bool) : isOne (.bl a) (.bl b) = some (b == a) := rfl
end
/-! ### for -/
def ctK (o : O) (k : Slots → Sto → O) : O := match o with
  | .nx σ S => k σ S
  | .ct σ S => k σ S
  | o => o
section
variable {σ : Slots} {S : Sto} {k : Slots → Sto → O} {α : Type}
theorem ctK_nx : ctK (.nx σ S) k = k σ S := rfl
theorem ctK_ct : ctK (.ct σ S) k = k σ S := rfl
theorem ctK_rt (d : D) : ctK (.rt d S) k = .rt d S := rfl
theorem ctK_exc (x : Str) : ctK (.exc x S) k = .exc x S := rfl
theorem ctK_bad : ctK .bad k = .bad := rfl
theorem ctK_ite (c : Prop) [Decidable c] (a b : O) : ctK (if c then a else b) k = if c then ctK a k else ctK b k := by split <;> rfl
theorem ctK_rK (r : R α) (f : α → Sto → O) : ctK (rK r f) k = rK r fun a S => ctK (f a S) k := by cases r <;> rfl
theorem ctK_optK (r : Option α) (f : α → O) : ctK (optK r f) k = optK r fun a => ctK (f a) k := by cases r <;> rfl
theorem ctK_blK (d : D) (a b : O) : ctK (blK d a b) k = blK d (ctK a k) (ctK b k) := by
  unfold blK; split <;> rfl
theorem ctK_congr {d d' : O} {k : Slots → Sto → O} (h : d = d') : ctK d k = ctK d' k := by rw [h]
def goK (P : Prog) (call : Fun → List D → Sto → O) (ts : List Nat) (b : Cs) : List D → Slots → Sto → (Slots → Sto → O) → O
  | [], σ, S, kn => kn σ S
  | x :: r, σ, S, kn => optK (bindT ts x σ) fun σ' => ctK (exs P call b σ' S) fun σ2 S2 => goK P call ts b r σ2 S2 kn
variable {P : Prog} {call : Fun → List D → Sto → O} {ts : List Nat} {b : Cs} {kn : Slots → Sto → O}
theorem goK_nil : goK P call ts b [] σ S kn = kn σ S := rfl
theorem goK_cons (x : D) (r : List D) : goK P call ts b (x :: r) σ S kn = optK (bindT ts x σ) fun σ' => ctK (exs P call b σ' S) fun σ2 S2 => goK P call ts b r σ2 S2 kn := rfl
theorem foGo_go {k : Bool} {d : D} {all : List D} (hv : isV d = true) (S0 : Sto) : ∀ (xs : List D) (σ : Slots) (S : Sto), oK (unO S0 d (foGo ts (forT P call b) k d all xs σ S)) kn = goK P call ts b xs σ S kn
  | [], σ, S => by
    rw [foGo, stays_v hv, if_pos rfl, goK]
    unfold unO
    dsimp only
    rw [unlock_v hv]; rfl
  | x :: r, σ, S => by
    rw [foGo, stays_v hv, if_pos rfl, goK]
    unfold optK
    cases bindT ts x σ with
    | none => rfl
    | some σ' =>
      dsimp only
      unfold forT ctK
      cases h : exs P call b σ' S with
      | nx σ2 S2 => exact foGo_go hv S0 r σ2 S2
      | ct σ2 S2 => exact foGo_go hv S0 r σ2 S2
      | rt d2 S2 =>
        dsimp only
        unfold unO
        dsimp only
        rw [unlock_v hv]; rfl
      | exc x S2 => rfl
      | bad => rfl
theorem forK_v {d : D} {xs : List D} (hv : isV d = true) : forK P call ts b S d xs σ kn = goK P call ts b xs σ S kn := by
  unfold forK
  rw [lock_v hv]
  exact foGo_go hv S xs σ S
theorem forK_tup (ys xs : List D) : forK P call ts b S (.tup ys) xs σ kn = goK P call ts b xs σ S kn := forK_v rfl
theorem forK_vl (ys xs : List D) : forK P call ts b S (.vl ys) xs σ kn = goK P call ts b xs σ S kn := forK_v rfl
theorem forK_vd (ys : List (D × D)) (xs : List D) : forK P call ts b S (.vd ys) xs σ kn = goK P call ts b xs σ S kn := forK_v rfl
theorem forK_str (y : Str) (xs : List D) : forK P call ts b S (.str y) xs σ kn = goK P call ts b xs σ S kn := forK_v rfl
/-- while -/
def whK (P : Prog) (call : Fun → List D → Sto → O) (c : E) (b : Cs) : Nat → Slots → Sto → (Slots → Sto → O) → O
  | 0, _, _, _ => .bad
  | n + 1, σ, S, kn => evK P call σ c S fun d S1 => blK d (ctK (exs P call b σ S1) fun σ2 S2 => whK P call c b n σ2 S2 kn) (kn σ S1)
theorem whGo_K (c : E) : ∀ (n : Nat) (σ : Slots) (S : Sto), oK (whGo (fun σ' S1 => (ev P call σ' c S1).bind fun x S2 => match x with
      | .bl k => .ok k S2
      | _ => .bad) (fun σ' S1 => exs P call b σ' S1) n σ S) kn = whK P call c b n σ S kn
  | 0, _, _ => rfl
  | n + 1, σ, S => by
    rw [whGo, whK]
    unfold evK
    cases ev P call σ c S with
    | ok d S1 =>
      cases d with
      | bl k =>
        cases k with
        | true =>
          show oK (match exs P call b σ S1 with
            | .nx σ' S2 => whGo _ _ n σ' S2
            | .ct σ' S2 => whGo _ _ n σ' S2
            | o => o) kn = ctK (exs P call b σ S1) fun σ2 S2 => whK P call c b n σ2 S2 kn
          unfold ctK
          cases exs P call b σ S1 with
          | nx σ' S2 => exact whGo_K c n σ' S2
          | ct σ' S2 => exact whGo_K c n σ' S2
          | rt d S2 => rfl
          | exc x S2 => rfl
          | bad => rfl
        | false => rfl
      | _ => rfl
    | exc x S1 => rfl
    | bad => rfl
theorem exK_whl (c : E) : exK P call (.whl c b) σ S kn = whK P call c b 64 σ S kn := by
  unfold exK
  rw [ex]
  exact whGo_K c 64 σ S
theorem whK_step (c : E) (n : Nat) : whK P call c b (n + 1) σ S kn = evK P call σ c S fun d S1 => blK d (ctK (exs P call b σ S1) fun σ2 S2 => whK P call c b n σ2 S2 kn) (kn σ S1) := rfl
theorem bindT_one (i : Nat) (d : D) : bindT [i] d σ = some (σ.set i (some d)) := rfl
theorem bindT_two (i j : Nat) (a b : D) : bindT [i, j] (.tup [a, b]) σ = some ((σ.set i (some a)).set j (some b)) := rfl
theorem wipeD_nil : wipeD σ [] = σ := rfl
theorem wipeD_cons (i : Nat) (r : List Nat) : wipeD σ (i :: r) = (wipeD σ r).set i none := rfl
theorem rangeD_len (n : Nat) : (rangeD n).length = n := by unfold rangeD; simp
/-- one of a list -/
def pkD (xs : List D) (i : Nat) : D := xs.getD i .non
theorem pkD_all {xs : List D} {i : Nat} {p : D → Bool} (h : xs.all p = true) (hi : i < xs.length) : p (pkD xs i) = true := by
  unfold pkD
  rw [List.getD_eq_getElem?_getD, List.getElem?_eq_getElem hi]
  exact List.all_eq_true.mp h _ (List.getElem_mem hi)
end
end Lt
namespace Lt
open PySem (Str)
def f_wall : Fun := ⟨1, 1, [], (.cons (.whl (.cst (.bl true)) (.cons (.pass) .nil)) .nil), [(Str.ofString "k")], none⟩
def f_is_whole : Fun := ⟨3, 3, [], (.cons (.ret (.and (.isi (.var 0) .int) (.and (.not (.isi (.var 0) .bool)) (.chn .le .le (.var 1) (.var 0) (.var 2))))) .nil), [(Str.ofString "thing"), (Str.ofString "least"), (Str.ofString "most")], none⟩
def f_is_name : Fun := ⟨1, 2, [], (.cons (.ret (.and (.isi (.var 0) .str) (.and (.chn .le .le (.cst (.int 1)) (.blt false .len (.var 0)) (.cst (.int 4))) (.blt false .all (.lc false [1] (.var 0) .nil (.cmp .isin (.var 1) (.glb (Str.ofString "LETTERS")))))))) .nil), [(Str.ofString "thing")], none⟩
def f_is_path : Fun := ⟨1, 2, [], (.cons (.ret (.and (.isi (.var 0) .tuple) (.and (.cmp .le (.blt false .len (.var 0)) (.cst (.int 5))) (.blt false .all (.lc false [1] (.var 0) .nil (.call true (Str.ofString "is_name") (.cons (.var 1) .nil))))))) .nil), [(Str.ofString "thing")], none⟩
def f_is_text : Fun := ⟨1, 2, [], (.cons (.ret (.and (.isi (.var 0) .str) (.and (.cmp .le (.blt false .len (.var 0)) (.cst (.int 40))) (.blt false .all (.lc false [1] (.var 0) .nil (.or (.cmp .eq (.var 1) (.cst (.str (Str.ofString " ")))) (.cmp .isin (.var 1) (.glb (Str.ofString "LETTERS"))))))))) .nil), [(Str.ofString "thing")], none⟩
def f_need_path : Fun := ⟨1, 1, [], (.cons (.ifs (.not (.call true (Str.ofString "is_path") (.cons (.var 0) .nil))) (.cons (.raise (Str.ofString "NoPath")) .nil) .nil) .nil), [(Str.ofString "path")], none⟩
def f_need_text : Fun := ⟨1, 1, [], (.cons (.ifs (.not (.call true (Str.ofString "is_text") (.cons (.var 0) .nil))) (.cons (.raise (Str.ofString "NoText")) .nil) .nil) .nil), [(Str.ofString "text")], none⟩
def f_lies_within : Fun := ⟨2, 2, [], (.cons (.ret (.and (.cmp .gt (.blt false .len (.var 0)) (.blt false .len (.var 1))) (.cmp .eq (.slc (.var 0) .nil (.cons (.blt false .len (.var 1)) .nil)) (.var 1)))) .nil), [(Str.ofString "path"), (Str.ofString "other")], none⟩
def f_is_file : Fun := ⟨1, 1, [], (.cons (.ifs (.or (.not (.isi (.var 0) .tuple)) (.or (.cmp .ne (.blt false .len (.var 0)) (.cst (.int 3))) (.cmp .ne (.idx (.var 0) (.cst (.int 0))) (.cst (.str (Str.ofString "file")))))) (.cons (.ret (.cst (.bl false))) .nil) .nil) (.cons (.ret (.and (.call true (Str.ofString "is_whole") (.cons (.idx (.var 0) (.cst (.int 1))) (.cons (.cst (.int 0)) (.cons (.cst (.int 999)) .nil)))) (.call true (Str.ofString "is_text") (.cons (.idx (.var 0) (.cst (.int 2))) .nil)))) .nil)), [(Str.ofString "thing")], none⟩
def f_one_text : Fun := ⟨1, 3, [], (.cons (.asg (.name 1) (.dct true .nil)) (.cons (.fors [2] (.var 0) (.cons (.ifs (.and (.cmp .eq (.idx (.var 2) (.cst (.int 0))) (.cst (.str (Str.ofString "file")))) (.cmp .ne (.bm .setdefault (.var 1) (.cons (.idx (.var 2) (.cst (.int 1))) (.cons (.idx (.var 2) (.cst (.int 2))) .nil))) (.idx (.var 2) (.cst (.int 2))))) (.cons (.ret (.cst (.bl false))) .nil) .nil) .nil)) (.cons (.ret (.cst (.bl true))) .nil))), [(Str.ofString "things")], none⟩
def f_is_tree : Fun := ⟨1, 2, [], (.cons (.ifs (.or (.not (.isi (.var 0) .dict)) (.or (.cmp .gt (.blt false .len (.var 0)) (.glb (Str.ofString "MOST"))) (.not (.blt false .all (.lc false [1] (.var 0) .nil (.call true (Str.ofString "is_path") (.cons (.var 1) .nil))))))) (.cons (.ret (.cst (.bl false))) .nil) .nil) (.cons (.ifs (.or (.not (.blt false .all (.lc false [1] (.var 0) .nil (.or (.cmp .eq (.idx (.var 0) (.var 1)) (.glb (Str.ofString "DRAWER"))) (.call true (Str.ofString "is_file") (.cons (.idx (.var 0) (.var 1)) .nil)))))) (.cmp .ne (.bm .get (.var 0) (.cons (.tup .nil) .nil)) (.glb (Str.ofString "DRAWER")))) (.cons (.ret (.cst (.bl false))) .nil) .nil) (.cons (.ifs (.not (.blt false .all (.lc false [1] (.var 0) .nil (.or (.cmp .eq (.var 1) (.tup .nil)) (.cmp .eq (.bm .get (.var 0) (.cons (.slc (.var 1) .nil (.cons (.neg (.cst (.int 1))) .nil)) .nil)) (.glb (Str.ofString "DRAWER"))))))) (.cons (.ret (.cst (.bl false))) .nil) .nil) (.cons (.ret (.call true (Str.ofString "one_text") (.cons (.vals false (.var 0)) .nil))) .nil)))), [(Str.ofString "thing")], none⟩
def f_need_tree : Fun := ⟨1, 1, [], (.cons (.ifs (.not (.call true (Str.ofString "is_tree") (.cons (.var 0) .nil))) (.cons (.raise (Str.ofString "NoTree")) .nil) .nil) .nil), [(Str.ofString "thing")], none⟩
def f_numbered : Fun := ⟨1, 5, [], (.cons (.asg (.name 1) (.dct true .nil)) (.cons (.asg (.name 2) (.dct true .nil)) (.cons (.fors [3] (.blt false .sorted (.var 0)) (.cons (.asg (.name 4) (.idx (.var 0) (.var 3))) (.cons (.asg (.sub (.var 2) (.var 3)) (.glb (Str.ofString "DRAWER"))) (.cons (.ifs (.cmp .eq (.idx (.var 4) (.cst (.int 0))) (.cst (.str (Str.ofString "file")))) (.cons (.asg (.sub (.var 2) (.var 3)) (.tup (.cons (.cst (.str (Str.ofString "file"))) (.cons (.bm .setdefault (.var 1) (.cons (.idx (.var 4) (.cst (.int 1))) (.cons (.blt false .len (.var 1)) .nil))) (.cons (.idx (.var 4) (.cst (.int 2))) .nil))))) .nil) .nil) .nil)))) (.cons (.ret (.var 2)) .nil)))), [(Str.ofString "tree")], none⟩
def f_names_at : Fun := ⟨2, 3, [], (.cons (.ret (.blt false .sorted (.lc false [2] (.var 0) (.cons (.and (.cmp .ne (.var 2) (.tup .nil)) (.cmp .eq (.slc (.var 2) .nil (.cons (.neg (.cst (.int 1))) .nil)) (.var 1))) .nil) (.idx (.var 2) (.neg (.cst (.int 1))))))) .nil), [(Str.ofString "tree"), (Str.ofString "path")], none⟩
def f_same_file : Fun := ⟨2, 4, [], (.cons (.asg (.name 2) (.idx (.idx (.var 0) (.var 1)) (.cst (.int 1)))) (.cons (.ret (.blt false .sorted (.lc false [3] (.var 0) (.cons (.and (.cmp .eq (.idx (.idx (.var 0) (.var 3)) (.cst (.int 0))) (.cst (.str (Str.ofString "file")))) (.cmp .eq (.idx (.idx (.var 0) (.var 3)) (.cst (.int 1))) (.var 2))) .nil) (.var 3)))) .nil)), [(Str.ofString "tree"), (Str.ofString "path")], none⟩
def f_part_of : Fun := ⟨2, 3, [], (.cons (.ret (.blt false .sorted (.lc false [2] (.var 0) (.cons (.or (.cmp .eq (.var 2) (.var 1)) (.call true (Str.ofString "lies_within") (.cons (.var 2) (.cons (.var 1) .nil)))) .nil) (.var 2)))) .nil), [(Str.ofString "tree"), (Str.ofString "path")], none⟩
def f_need_not_root : Fun := ⟨1, 1, [], (.cons (.ifs (.cmp .eq (.var 0) (.tup .nil)) (.cons (.raise (Str.ofString "Root")) .nil) .nil) .nil), [(Str.ofString "path")], none⟩
def f_need_there : Fun := ⟨2, 2, [], (.cons (.ifs (.cmp .nin (.var 1) (.var 0)) (.cons (.raise (Str.ofString "NotThere")) .nil) .nil) .nil), [(Str.ofString "tree"), (Str.ofString "path")], none⟩
def f_need_place : Fun := ⟨2, 2, [], (.cons (.ifs (.cmp .ne (.bm .get (.var 0) (.cons (.slc (.var 1) .nil (.cons (.neg (.cst (.int 1))) .nil)) .nil)) (.glb (Str.ofString "DRAWER"))) (.cons (.raise (Str.ofString "NoDrawer")) .nil) .nil) .nil), [(Str.ofString "tree"), (Str.ofString "path")], none⟩
def f_need_free : Fun := ⟨2, 2, [], (.cons (.ifs (.cmp .isin (.var 1) (.var 0)) (.cons (.raise (Str.ofString "Taken")) .nil) .nil) .nil), [(Str.ofString "tree"), (Str.ofString "path")], none⟩
def f_need_file : Fun := ⟨2, 2, [], (.cons (.ifs (.cmp .eq (.idx (.var 0) (.var 1)) (.glb (Str.ofString "DRAWER"))) (.cons (.raise (Str.ofString "IsDrawer")) .nil) .nil) .nil), [(Str.ofString "tree"), (Str.ofString "path")], none⟩
def f_need_room : Fun := ⟨1, 1, [], (.cons (.ifs (.cmp .ge (.blt false .len (.var 0)) (.glb (Str.ofString "MOST"))) (.cons (.raise (Str.ofString "Full")) .nil) .nil) .nil), [(Str.ofString "tree")], none⟩
def f_check_make : Fun := ⟨2, 2, [], (.cons (.expr (.call true (Str.ofString "need_path") (.cons (.var 1) .nil))) (.cons (.expr (.call true (Str.ofString "need_not_root") (.cons (.var 1) .nil))) (.cons (.expr (.call true (Str.ofString "need_place") (.cons (.var 0) (.cons (.var 1) .nil)))) (.cons (.expr (.call true (Str.ofString "need_free") (.cons (.var 0) (.cons (.var 1) .nil)))) (.cons (.expr (.call true (Str.ofString "need_room") (.cons (.var 0) .nil))) .nil))))), [(Str.ofString "tree"), (Str.ofString "path")], none⟩
def f_check_write : Fun := ⟨3, 3, [], (.cons (.expr (.call true (Str.ofString "need_path") (.cons (.var 1) .nil))) (.cons (.expr (.call true (Str.ofString "need_text") (.cons (.var 2) .nil))) (.cons (.expr (.call true (Str.ofString "need_not_root") (.cons (.var 1) .nil))) (.cons (.expr (.call true (Str.ofString "need_place") (.cons (.var 0) (.cons (.var 1) .nil)))) (.cons (.ifs (.cmp .isin (.var 1) (.var 0)) (.cons (.expr (.call true (Str.ofString "need_file") (.cons (.var 0) (.cons (.var 1) .nil)))) .nil) (.cons (.expr (.call true (Str.ofString "need_room") (.cons (.var 0) .nil))) .nil)) .nil))))), [(Str.ofString "tree"), (Str.ofString "path"), (Str.ofString "text")], none⟩
def f_check_read : Fun := ⟨2, 2, [], (.cons (.expr (.call true (Str.ofString "need_path") (.cons (.var 1) .nil))) (.cons (.expr (.call true (Str.ofString "need_there") (.cons (.var 0) (.cons (.var 1) .nil)))) (.cons (.expr (.call true (Str.ofString "need_file") (.cons (.var 0) (.cons (.var 1) .nil)))) .nil))), [(Str.ofString "tree"), (Str.ofString "path")], none⟩
def f_check_add : Fun := ⟨3, 3, [], (.cons (.expr (.call true (Str.ofString "need_path") (.cons (.var 1) .nil))) (.cons (.expr (.call true (Str.ofString "need_text") (.cons (.var 2) .nil))) (.cons (.expr (.call true (Str.ofString "need_there") (.cons (.var 0) (.cons (.var 1) .nil)))) (.cons (.expr (.call true (Str.ofString "need_file") (.cons (.var 0) (.cons (.var 1) .nil)))) (.cons (.ifs (.cmp .gt (.bin false .add (.blt false .len (.idx (.idx (.var 0) (.var 1)) (.cst (.int 2)))) (.blt false .len (.var 2))) (.cst (.int 40))) (.cons (.raise (Str.ofString "TooLong")) .nil) .nil) .nil))))), [(Str.ofString "tree"), (Str.ofString "path"), (Str.ofString "text")], none⟩
def f_check_remove : Fun := ⟨2, 2, [], (.cons (.expr (.call true (Str.ofString "need_path") (.cons (.var 1) .nil))) (.cons (.expr (.call true (Str.ofString "need_not_root") (.cons (.var 1) .nil))) (.cons (.expr (.call true (Str.ofString "need_there") (.cons (.var 0) (.cons (.var 1) .nil)))) (.cons (.ifs (.and (.cmp .eq (.idx (.var 0) (.var 1)) (.glb (Str.ofString "DRAWER"))) (.cmp .ne (.call true (Str.ofString "names_at") (.cons (.var 0) (.cons (.var 1) .nil))) (.lst false .nil))) (.cons (.raise (Str.ofString "NotEmpty")) .nil) .nil) .nil)))), [(Str.ofString "tree"), (Str.ofString "path")], none⟩
def f_check_clear : Fun := ⟨2, 2, [], (.cons (.expr (.call true (Str.ofString "need_path") (.cons (.var 1) .nil))) (.cons (.expr (.call true (Str.ofString "need_not_root") (.cons (.var 1) .nil))) (.cons (.expr (.call true (Str.ofString "need_there") (.cons (.var 0) (.cons (.var 1) .nil)))) .nil))), [(Str.ofString "tree"), (Str.ofString "path")], none⟩
def f_check_move : Fun := ⟨3, 4, [], (.cons (.expr (.call true (Str.ofString "need_path") (.cons (.var 1) .nil))) (.cons (.expr (.call true (Str.ofString "need_path") (.cons (.var 2) .nil))) (.cons (.expr (.call true (Str.ofString "need_not_root") (.cons (.var 1) .nil))) (.cons (.expr (.call true (Str.ofString "need_not_root") (.cons (.var 2) .nil))) (.cons (.expr (.call true (Str.ofString "need_there") (.cons (.var 0) (.cons (.var 1) .nil)))) (.cons (.ifs (.call true (Str.ofString "lies_within") (.cons (.var 2) (.cons (.var 1) .nil))) (.cons (.raise (Str.ofString "Within")) .nil) .nil) (.cons (.expr (.call true (Str.ofString "need_place") (.cons (.var 0) (.cons (.var 2) .nil)))) (.cons (.expr (.call true (Str.ofString "need_free") (.cons (.var 0) (.cons (.var 2) .nil)))) (.cons (.ifs (.cmp .gt (.bin false .add (.bin false .sub (.blt false .max (.lc false [3] (.call true (Str.ofString "part_of") (.cons (.var 0) (.cons (.var 1) .nil))) .nil (.blt false .len (.var 3)))) (.blt false .len (.var 1))) (.blt false .len (.var 2))) (.cst (.int 5))) (.cons (.raise (Str.ofString "TooLong")) .nil) .nil) .nil))))))))), [(Str.ofString "tree"), (Str.ofString "old"), (Str.ofString "new")], none⟩
def f_check_tie : Fun := ⟨3, 3, [], (.cons (.expr (.call true (Str.ofString "need_path") (.cons (.var 1) .nil))) (.cons (.expr (.call true (Str.ofString "need_path") (.cons (.var 2) .nil))) (.cons (.expr (.call true (Str.ofString "need_there") (.cons (.var 0) (.cons (.var 1) .nil)))) (.cons (.expr (.call true (Str.ofString "need_file") (.cons (.var 0) (.cons (.var 1) .nil)))) (.cons (.ifs (.cmp .ne (.var 2) (.tup .nil)) (.cons (.expr (.call true (Str.ofString "need_place") (.cons (.var 0) (.cons (.var 2) .nil)))) .nil) .nil) (.cons (.expr (.call true (Str.ofString "need_free") (.cons (.var 0) (.cons (.var 2) .nil)))) (.cons (.expr (.call true (Str.ofString "need_room") (.cons (.var 0) .nil))) .nil))))))), [(Str.ofString "tree"), (Str.ofString "old"), (Str.ofString "new")], none⟩
def f_check_list : Fun := ⟨2, 2, [], (.cons (.expr (.call true (Str.ofString "need_path") (.cons (.var 1) .nil))) (.cons (.expr (.call true (Str.ofString "need_there") (.cons (.var 0) (.cons (.var 1) .nil)))) (.cons (.ifs (.cmp .ne (.idx (.var 0) (.var 1)) (.glb (Str.ofString "DRAWER"))) (.cons (.raise (Str.ofString "NoDrawer")) .nil) .nil) .nil))), [(Str.ofString "tree"), (Str.ofString "path")], none⟩
def f_law_draw : Fun := ⟨3, 6, [], (.cons (.ifs (.cmp .gt (.idx (.var 1) (.cst (.int 1))) (.cst (.int 0))) (.cons (.asg (.name 3) (.bin false .mod (.idx (.var 1) (.cst (.int 1))) (.var 2))) (.cons (.asg (.sub (.var 1) (.cst (.int 1))) (.bin false .fdiv (.idx (.var 1) (.cst (.int 1))) (.var 2))) (.cons (.ret (.var 3)) .nil))) .nil) (.cons (.asg (.name 4) (.idx (.var 1) (.cst (.int 0)))) (.cons (.aug (.sub (.var 1) (.cst (.int 0))) (.cst (.int 1))) (.cons (.ifs (.cmp .eq (.var 0) (.lst false .nil)) (.cons (.ret (.bin false .mod (.var 4) (.var 2))) .nil) .nil) (.cons (.ifs (.and (.cmp .lt (.var 4) (.blt false .len (.var 0))) (.cmp .ge (.idx (.var 0) (.var 4)) (.bin false .pow (.cst (.int 10)) (.cst (.int 18))))) (.cons (.asg (.sub (.var 1) (.cst (.int 1))) (.bin false .mod (.bin false .fdiv (.idx (.var 0) (.var 4)) (.var 2)) (.bin false .mul (.bin false .pow (.cst (.int 10)) (.cst (.int 60))) (.bin false .pow (.cst (.int 10)) (.cst (.int 60)))))) (.cons (.ret (.bin false .mod (.idx (.var 0) (.var 4)) (.var 2))) .nil)) .nil) (.cons (.asg (.name 5) (.bin false .mod (.bin false .add (.bin false .add (.bin false .mul (.idx (.var 0) (.bin false .mod (.var 4) (.blt false .len (.var 0)))) (.cst (.int 1103515245))) (.bin false .mul (.cst (.int 7919)) (.var 4))) (.cst (.int 12345))) (.cst (.int 2147483647)))) (.cons (.ret (.bin false .mod (.bin false .mod (.bin false .mod (.bin false .pow (.var 5) (.cst (.int 5))) (.cst (.int 2147483647))) (.cst (.int 999983))) (.var 2))) .nil))))))), [(Str.ofString "_law_script"), (Str.ofString "_law_town"), (Str.ofString "_law_many")], none⟩
def f_law_pick : Fun := ⟨3, 3, [], (.cons (.ret (.idx (.var 2) (.call true (Str.ofString "_law_draw") (.cons (.var 0) (.cons (.var 1) (.cons (.blt false .len (.var 2)) .nil)))))) .nil), [(Str.ofString "_law_script"), (Str.ofString "_law_town"), (Str.ofString "_law_some")], none⟩
def f_law_letter : Fun := ⟨2, 2, [], (.cons (.ret (.call true (Str.ofString "_law_pick") (.cons (.var 0) (.cons (.var 1) (.cons (.lst false (.cons (.cst (.str (Str.ofString "a"))) (.cons (.cst (.str (Str.ofString "b"))) (.cons (.cst (.str (Str.ofString "c"))) (.cons (.cst (.str (Str.ofString "ab"))) .nil))))) .nil))))) .nil), [(Str.ofString "_law_script"), (Str.ofString "_law_town")], none⟩
def f_law_text : Fun := ⟨2, 2, [], (.cons (.ret (.call true (Str.ofString "_law_pick") (.cons (.var 0) (.cons (.var 1) (.cons (.lst false (.cons (.cst (.str (Str.ofString ""))) (.cons (.cst (.str (Str.ofString "x"))) (.cons (.cst (.str (Str.ofString "y"))) (.cons (.cst (.str (Str.ofString "x y"))) (.cons (.cst (.str (Str.ofString "zz"))) .nil)))))) .nil))))) .nil), [(Str.ofString "_law_script"), (Str.ofString "_law_town")], none⟩
def f_law_tree : Fun := ⟨3, 9, [], (.cons (.asg (.name 3) (.dct true (.cons (.tup .nil) (.cons (.tup (.cons (.cst (.str (Str.ofString "drawer"))) .nil)) .nil)))) (.cons (.asg (.name 4) (.dct true .nil)) (.cons (.fors [5] (.blt false .range (.call true (Str.ofString "_law_draw") (.cons (.var 0) (.cons (.var 1) (.cons (.bin false .add (.var 2) (.cst (.int 1))) .nil))))) (.cons (.asg (.name 6) (.lc false [7] (.blt false .sorted (.var 3)) (.cons (.and (.cmp .eq (.idx (.var 3) (.var 7)) (.tup (.cons (.cst (.str (Str.ofString "drawer"))) .nil))) (.cmp .lt (.blt false .len (.var 7)) (.cst (.int 5)))) .nil) (.var 7))) (.cons (.asg (.name 7) (.bin false .add (.call true (Str.ofString "_law_pick") (.cons (.var 0) (.cons (.var 1) (.cons (.var 6) .nil)))) (.tup (.cons (.call true (Str.ofString "_law_letter") (.cons (.var 0) (.cons (.var 1) .nil))) .nil)))) (.cons (.ifs (.cmp .nin (.var 7) (.var 3)) (.cons (.asg (.name 8) (.call true (Str.ofString "_law_pick") (.cons (.var 0) (.cons (.var 1) (.cons (.lst false (.cons (.cst (.int 0)) (.cons (.cst (.int 1)) (.cons (.cst (.int 2)) (.cons (.cst (.int 999)) .nil))))) .nil))))) (.cons (.asg (.sub (.var 4) (.var 8)) (.bm .get (.var 4) (.cons (.var 8) (.cons (.call true (Str.ofString "_law_text") (.cons (.var 0) (.cons (.var 1) .nil))) .nil)))) (.cons (.asg (.sub (.var 3) (.var 7)) (.call true (Str.ofString "_law_pick") (.cons (.var 0) (.cons (.var 1) (.cons (.lst false (.cons (.tup (.cons (.cst (.str (Str.ofString "drawer"))) .nil)) (.cons (.tup (.cons (.cst (.str (Str.ofString "file"))) (.cons (.var 8) (.cons (.idx (.var 4) (.var 8)) .nil)))) .nil))) .nil))))) .nil))) .nil) .nil)))) (.cons (.ret (.var 3)) .nil)))), [(Str.ofString "_law_script"), (Str.ofString "_law_town"), (Str.ofString "_law_many")], none⟩
def f_law_no_path : Fun := ⟨2, 3, [], (.cons (.asg (.name 2) (.lst false (.cons (.cst .non) (.cons (.cst (.str (Str.ofString "a"))) (.cons (.lst false (.cons (.cst (.str (Str.ofString "a"))) .nil)) (.cons (.tup (.cons (.cst (.str (Str.ofString ""))) .nil)) (.cons (.tup (.cons (.cst (.str (Str.ofString "A"))) .nil)) (.cons (.tup (.cons (.cst (.str (Str.ofString "abcde"))) .nil)) (.cons (.tup (.cons (.cst (.int 1)) .nil)) (.cons (.tup (.cons (.cst (.str (Str.ofString "a"))) (.cons (.cst .non) .nil))) (.cons (.tup (.cons (.cst (.str (Str.ofString "a b"))) .nil)) (.cons (.bin false .mul (.tup (.cons (.cst (.str (Str.ofString "a"))) .nil)) (.cst (.int 6))) (.cons (.cst (.int 7)) (.cons (.tup (.cons (.cst (.str (Str.ofString "a/"))) .nil)) (.cons (.tup (.cons (.tup (.cons (.cst (.str (Str.ofString "a"))) .nil)) .nil)) .nil))))))))))))))) (.cons (.ret (.call true (Str.ofString "_law_pick") (.cons (.var 0) (.cons (.var 1) (.cons (.var 2) .nil))))) .nil)), [(Str.ofString "_law_script"), (Str.ofString "_law_town")], none⟩
def f_law_no_tree : Fun := ⟨2, 3, [], (.cons (.asg (.name 2) (.lst true (.cons (.cst .non) (.cons (.lst false .nil) (.cons (.dct false .nil) (.cons (.dct false (.cons (.tup .nil) (.cons (.tup (.cons (.cst (.str (Str.ofString "drawer"))) (.cons (.cst (.bl false)) .nil))) .nil))) (.cons (.dct false (.cons (.tup (.cons (.cst (.str (Str.ofString "a"))) .nil)) (.cons (.tup (.cons (.cst (.str (Str.ofString "drawer"))) .nil)) .nil))) (.cons (.dct false (.cons (.tup .nil) (.cons (.tup (.cons (.cst (.str (Str.ofString "file"))) (.cons (.cst (.int 0)) (.cons (.cst (.str (Str.ofString ""))) .nil)))) .nil))) (.cons (.tup (.cons (.tup .nil) (.cons (.tup (.cons (.cst (.str (Str.ofString "drawer"))) .nil)) .nil))) .nil))))))))) (.cons (.expr (.bm .extend (.var 2) (.cons (.lst false (.cons (.dct false (.cons (.tup .nil) (.cons (.tup (.cons (.cst (.str (Str.ofString "drawer"))) .nil)) (.cons (.cst (.str (Str.ofString "a"))) (.cons (.tup (.cons (.cst (.str (Str.ofString "drawer"))) .nil)) .nil))))) (.cons (.dct false (.cons (.tup .nil) (.cons (.tup (.cons (.cst (.str (Str.ofString "drawer"))) .nil)) (.cons (.tup (.cons (.cst (.str (Str.ofString "a"))) (.cons (.cst (.str (Str.ofString "b"))) .nil))) (.cons (.tup (.cons (.cst (.str (Str.ofString "drawer"))) .nil)) .nil))))) .nil))) .nil))) (.cons (.expr (.bm .append (.var 2) (.cons (.dct false (.cons (.tup .nil) (.cons (.tup (.cons (.cst (.str (Str.ofString "drawer"))) .nil)) (.cons (.tup (.cons (.cst (.str (Str.ofString "a"))) .nil)) (.cons (.tup (.cons (.cst (.str (Str.ofString "file"))) (.cons (.cst (.int 1000)) (.cons (.cst (.str (Str.ofString ""))) .nil)))) .nil))))) .nil))) (.cons (.expr (.bm .append (.var 2) (.cons (.dct false (.cons (.tup .nil) (.cons (.tup (.cons (.cst (.str (Str.ofString "drawer"))) .nil)) (.cons (.tup (.cons (.cst (.str (Str.ofString "a"))) .nil)) (.cons (.tup (.cons (.cst (.str (Str.ofString "file"))) (.cons (.cst (.int 0)) (.cons (.cst (.str (Str.ofString "x"))) .nil)))) (.cons (.tup (.cons (.cst (.str (Str.ofString "b"))) .nil)) (.cons (.tup (.cons (.cst (.str (Str.ofString "file"))) (.cons (.cst (.int 0)) (.cons (.cst (.str (Str.ofString "y"))) .nil)))) .nil))))))) .nil))) (.cons (.expr (.bm .append (.var 2) (.cons (.dct false (.cons (.tup .nil) (.cons (.tup (.cons (.cst (.str (Str.ofString "drawer"))) .nil)) (.cons (.tup (.cons (.cst (.str (Str.ofString "a"))) .nil)) (.cons (.tup (.cons (.cst (.str (Str.ofString "file"))) (.cons (.cst (.int 0)) (.cons (.cst (.str (Str.ofString "x"))) .nil)))) (.cons (.tup (.cons (.cst (.str (Str.ofString "a"))) (.cons (.cst (.str (Str.ofString "b"))) .nil))) (.cons (.tup (.cons (.cst (.str (Str.ofString "drawer"))) .nil)) .nil))))))) .nil))) (.cons (.expr (.bm .extend (.var 2) (.cons (.lst false (.cons (.dct false (.cons (.tup .nil) (.cons (.tup (.cons (.cst (.str (Str.ofString "drawer"))) .nil)) (.cons (.tup (.cons (.cst (.str (Str.ofString "a"))) .nil)) (.cons (.tup (.cons (.cst (.str (Str.ofString "gone"))) .nil)) .nil))))) (.cons (.dct false (.cons (.tup .nil) (.cons (.tup (.cons (.cst (.str (Str.ofString "drawer"))) .nil)) (.cons (.tup (.cons (.cst (.str (Str.ofString "a"))) .nil)) (.cons (.lst false (.cons (.cst (.str (Str.ofString "drawer"))) .nil)) .nil))))) (.cons (.cst (.str (Str.ofString "tree"))) .nil)))) .nil))) (.cons (.expr (.bm .extend (.var 2) (.cons (.lst false (.cons (.dct false (.cons (.tup .nil) (.cons (.tup (.cons (.cst (.str (Str.ofString "drawer"))) .nil)) (.cons (.tup (.cons (.cst (.str (Str.ofString "a"))) .nil)) (.cons (.tup (.cons (.cst (.str (Str.ofString "file"))) (.cons (.cst (.bl true)) (.cons (.cst (.str (Str.ofString ""))) .nil)))) .nil))))) (.cons (.dct false (.cons (.tup .nil) (.cons (.tup (.cons (.cst (.str (Str.ofString "drawer"))) .nil)) (.cons (.tup (.cons (.cst (.str (Str.ofString "a"))) .nil)) (.cons (.tup (.cons (.cst (.str (Str.ofString "file"))) (.cons (.cst (.int 0)) (.cons (.cst (.str (Str.ofString "X"))) .nil)))) .nil))))) .nil))) .nil))) (.cons (.expr (.bm .append (.var 2) (.cons (.dct false (.cons (.tup .nil) (.cons (.tup (.cons (.cst (.str (Str.ofString "drawer"))) .nil)) (.cons (.tup (.cons (.cst (.str (Str.ofString "a"))) .nil)) (.cons (.cst .non) .nil))))) .nil))) (.cons (.expr (.bm .append (.var 2) (.cons (.dct false (.cons (.tup .nil) (.cons (.tup (.cons (.cst (.str (Str.ofString "drawer"))) .nil)) (.cons (.tup (.cons (.cst (.str (Str.ofString "a"))) .nil)) (.cons (.tup (.cons (.cst (.str (Str.ofString "file"))) (.cons (.cst (.int 0)) (.cons (.bin false .mul (.cst (.str (Str.ofString "x"))) (.cst (.int 41))) .nil)))) .nil))))) .nil))) (.cons (.ret (.call true (Str.ofString "_law_pick") (.cons (.var 0) (.cons (.var 1) (.cons (.var 2) .nil))))) .nil)))))))))), [(Str.ofString "_law_script"), (Str.ofString "_law_town")], none⟩
def f_law_path : Fun := ⟨3, 5, [], (.cons (.asg (.name 3) (.call true (Str.ofString "_law_pick") (.cons (.var 0) (.cons (.var 1) (.cons (.blt false .sorted (.var 2)) .nil))))) (.cons (.asg (.name 4) (.call true (Str.ofString "_law_draw") (.cons (.var 0) (.cons (.var 1) (.cons (.cst (.int 4)) .nil))))) (.cons (.ifs (.cmp .eq (.var 4) (.cst (.int 0))) (.cons (.asg (.name 3) (.bin false .add (.var 3) (.tup (.cons (.call true (Str.ofString "_law_letter") (.cons (.var 0) (.cons (.var 1) .nil))) .nil)))) .nil) .nil) (.cons (.ifs (.cmp .eq (.var 4) (.cst (.int 1))) (.cons (.asg (.name 3) (.bin false .add (.slc (.var 3) .nil (.cons (.neg (.cst (.int 1))) .nil)) (.tup (.cons (.call true (Str.ofString "_law_letter") (.cons (.var 0) (.cons (.var 1) .nil))) .nil)))) .nil) .nil) (.cons (.ifs (.and (.cmp .eq (.var 4) (.cst (.int 2))) (.cmp .eq (.call true (Str.ofString "_law_draw") (.cons (.var 0) (.cons (.var 1) (.cons (.cst (.int 4)) .nil)))) (.cst (.int 0)))) (.cons (.asg (.name 3) (.bin false .add (.var 3) (.tup (.cons (.call true (Str.ofString "_law_letter") (.cons (.var 0) (.cons (.var 1) .nil))) (.cons (.call true (Str.ofString "_law_letter") (.cons (.var 0) (.cons (.var 1) .nil))) .nil))))) .nil) .nil) (.cons (.ret (.slc (.var 3) .nil (.cons (.cst (.int 5)) .nil))) .nil)))))), [(Str.ofString "_law_script"), (Str.ofString "_law_town"), (Str.ofString "_law_tree_here")], none⟩
def f_law_chosen : Fun := ⟨3, 4, [], (.cons (.asg (.name 3) (.call true (Str.ofString "_law_pick") (.cons (.var 0) (.cons (.var 1) (.cons (.lst false (.cons (.cst (.str (Str.ofString "make"))) (.cons (.cst (.str (Str.ofString "write"))) (.cons (.cst (.str (Str.ofString "write"))) (.cons (.cst (.str (Str.ofString "add"))) (.cons (.cst (.str (Str.ofString "remove"))) (.cons (.cst (.str (Str.ofString "clear"))) (.cons (.cst (.str (Str.ofString "move"))) (.cons (.cst (.str (Str.ofString "move"))) (.cons (.cst (.str (Str.ofString "tie"))) (.cons (.cst (.str (Str.ofString "tie"))) .nil))))))))))) .nil))))) (.cons (.ret (.tup (.cons (.var 3) (.cons (.call true (Str.ofString "_law_path") (.cons (.var 0) (.cons (.var 1) (.cons (.var 2) .nil)))) (.cons (.call true (Str.ofString "_law_path") (.cons (.var 0) (.cons (.var 1) (.cons (.var 2) .nil)))) (.cons (.call true (Str.ofString "_law_text") (.cons (.var 0) (.cons (.var 1) .nil))) .nil)))))) .nil)), [(Str.ofString "_law_script"), (Str.ofString "_law_town"), (Str.ofString "_law_tree_here")], none⟩
def f_law_do : Fun := ⟨2, 7, [], (.cons (.asg (.names [2, 3, 4, 5]) (.var 1)) (.cons (.tryw (.cons (.ifs (.cmp .eq (.var 2) (.cst (.str (Str.ofString "make")))) (.cons (.ret (.meth true (.var 0) (Str.ofString "make") (.cons (.var 3) .nil) [] .nil)) .nil) .nil) (.cons (.ifs (.cmp .eq (.var 2) (.cst (.str (Str.ofString "write")))) (.cons (.ret (.meth true (.var 0) (Str.ofString "write") (.cons (.var 3) .nil) [(Str.ofString "text")] (.cons (.var 5) .nil))) .nil) .nil) (.cons (.ifs (.cmp .eq (.var 2) (.cst (.str (Str.ofString "add")))) (.cons (.ret (.meth true (.var 0) (Str.ofString "add") (.cons (.var 3) .nil) [(Str.ofString "text")] (.cons (.var 5) .nil))) .nil) .nil) (.cons (.ifs (.cmp .eq (.var 2) (.cst (.str (Str.ofString "remove")))) (.cons (.ret (.meth true (.var 0) (Str.ofString "remove") (.cons (.var 3) .nil) [] .nil)) .nil) .nil) (.cons (.ifs (.cmp .eq (.var 2) (.cst (.str (Str.ofString "clear")))) (.cons (.ret (.meth true (.var 0) (Str.ofString "clear") (.cons (.var 3) .nil) [] .nil)) .nil) .nil) (.cons (.ret (.ite (.cmp .eq (.var 2) (.cst (.str (Str.ofString "move")))) (.meth true (.var 0) (Str.ofString "move") (.cons (.var 3) (.cons (.var 4) .nil)) [] .nil) (.meth true (.var 0) (Str.ofString "tie") (.cons (.var 3) (.cons (.var 4) .nil)) [] .nil))) .nil))))))) .nil)), [(Str.ofString "_law_house"), (Str.ofString "_law_deed")], none⟩
def f_law_made : Fun := ⟨1, 2, [], (.cons (.tryw (.cons (.ret (.leni (.new (Str.ofString "House") (.cons (.var 0) .nil) [] .nil))) .nil)) .nil), [(Str.ofString "_law_tree_here")], none⟩
def f_law_view : Fun := ⟨3, 4, [], (.cons (.tryw (.cons (.ifs (.cmp .eq (.var 1) (.cst (.int 0))) (.cons (.ret (.meth true (.var 0) (Str.ofString "kind") (.cons (.var 2) .nil) [] .nil)) .nil) .nil) (.cons (.ifs (.cmp .eq (.var 1) (.cst (.int 1))) (.cons (.ret (.meth true (.var 0) (Str.ofString "read") (.cons (.var 2) .nil) [] .nil)) .nil) .nil) (.cons (.ret (.ite (.cmp .eq (.var 1) (.cst (.int 2))) (.meth true (.var 0) (Str.ofString "listed") (.cons (.var 2) .nil) [] .nil) (.meth true (.var 0) (Str.ofString "tied") (.cons (.var 2) .nil) [] .nil))) .nil)))) .nil), [(Str.ofString "_law_house"), (Str.ofString "_law_what"), (Str.ofString "_law_path_here")], none⟩
def f_law : Fun := ⟨1, 10, [], (.cons (.asg (.name 1) (.lst true (.cons (.cst (.int 0)) (.cons (.cst (.int 0)) .nil)))) (.cons (.asg (.name 2) (.call true (Str.ofString "_law_no_tree") (.cons (.var 0) (.cons (.var 1) .nil)))) (.cons (.ifs (.or (.cmp .ne (.call true (Str.ofString "_law_made") (.cons (.var 2) .nil)) (.ite (.cmp .is (.var 2) (.cst .non)) (.cst (.int 1)) (.tup (.cons (.cst (.str (Str.ofString "refused"))) (.cons (.cst (.int 2)) .nil))))) (.cmp .ne (.call true (Str.ofString "_law_made") (.cons (.dct false (.cons (.tup .nil) (.cons (.tup (.cons (.cst (.str (Str.ofString "drawer"))) .nil)) .nil))) .nil)) (.cst (.int 1)))) (.cons (.ret (.cst (.bl false))) .nil) .nil) (.cons (.asg (.name 3) (.new (Str.ofString "House") (.cons (.dct false (.cons (.tup .nil) (.cons (.tup (.cons (.cst (.str (Str.ofString "drawer"))) .nil)) (.cons (.tup (.cons (.cst (.str (Str.ofString "f"))) .nil)) (.cons (.tup (.cons (.cst (.str (Str.ofString "file"))) (.cons (.cst (.int 3)) (.cons (.bin false .mul (.cst (.str (Str.ofString "x"))) (.cst (.int 39))) .nil)))) (.cons (.tup (.cons (.cst (.str (Str.ofString "d"))) .nil)) (.cons (.tup (.cons (.cst (.str (Str.ofString "drawer"))) .nil)) .nil))))))) .nil) [] .nil)) (.cons (.asg (.name 4) (.meth true (.var 3) (Str.ofString "tree") .nil [] .nil)) (.cons (.asg (.names [5, 6]) (.tup (.cons (.call true (Str.ofString "_law_no_path") (.cons (.var 0) (.cons (.var 1) .nil))) (.cons (.call true (Str.ofString "_law_pick") (.cons (.var 0) (.cons (.var 1) (.cons (.lst false (.cons (.cst .non) (.cons (.bin false .mul (.cst (.str (Str.ofString "x"))) (.cst (.int 41))) (.cons (.cst (.str (Str.ofString "X"))) (.cons (.cst (.int 5)) (.cons (.lst false (.cons (.cst (.str (Str.ofString "x"))) .nil)) (.cons (.cst (.str (Str.ofString "a|b"))) .nil))))))) .nil)))) .nil)))) (.cons (.fors [7] (.tup (.cons (.cst (.str (Str.ofString "make"))) (.cons (.cst (.str (Str.ofString "write"))) (.cons (.cst (.str (Str.ofString "add"))) (.cons (.cst (.str (Str.ofString "remove"))) (.cons (.cst (.str (Str.ofString "clear"))) (.cons (.cst (.str (Str.ofString "move"))) (.cons (.cst (.str (Str.ofString "tie"))) .nil)))))))) (.cons (.ifs (.cmp .ne (.call true (Str.ofString "_law_do") (.cons (.var 3) (.cons (.tup (.cons (.var 7) (.cons (.var 5) (.cons (.tup (.cons (.cst (.str (Str.ofString "f"))) .nil)) (.cons (.var 6) .nil))))) .nil))) (.tup (.cons (.cst (.str (Str.ofString "refused"))) (.cons (.cst (.int 0)) .nil)))) (.cons (.ret (.cst (.bl false))) .nil) .nil) .nil)) (.cons (.fors [8] (.tup (.cons (.tup (.cons (.cst (.str (Str.ofString "f"))) .nil)) (.cons (.tup (.cons (.cst (.str (Str.ofString "q"))) .nil)) (.cons (.tup .nil) .nil)))) (.cons (.ifs (.cmp .ne (.lc false [7] (.tup (.cons (.cst (.str (Str.ofString "move"))) (.cons (.cst (.str (Str.ofString "tie"))) .nil))) .nil (.call true (Str.ofString "_law_do") (.cons (.var 3) (.cons (.tup (.cons (.var 7) (.cons (.var 8) (.cons (.var 5) (.cons (.cst (.str (Str.ofString "x"))) .nil))))) .nil)))) (.bin false .mul (.lst false (.cons (.tup (.cons (.cst (.str (Str.ofString "refused"))) (.cons (.cst (.int 0)) .nil))) .nil)) (.cst (.int 2)))) (.cons (.ret (.cst (.bl false))) .nil) .nil) .nil)) (.cons (.fors [8] (.tup (.cons (.tup .nil) (.cons (.tup (.cons (.cst (.str (Str.ofString "f"))) .nil)) (.cons (.tup (.cons (.cst (.str (Str.ofString "q"))) .nil)) (.cons (.tup (.cons (.cst (.str (Str.ofString "f"))) (.cons (.cst (.str (Str.ofString "g"))) .nil))) (.cons (.tup (.cons (.cst (.str (Str.ofString "d"))) .nil)) .nil)))))) (.cons (.ifs (.cmp .ne (.lc false [7] (.tup (.cons (.cst (.str (Str.ofString "write"))) (.cons (.cst (.str (Str.ofString "add"))) .nil))) .nil (.call true (Str.ofString "_law_do") (.cons (.var 3) (.cons (.tup (.cons (.var 7) (.cons (.var 8) (.cons (.tup .nil) (.cons (.var 6) .nil))))) .nil)))) (.bin false .mul (.lst false (.cons (.tup (.cons (.cst (.str (Str.ofString "refused"))) (.cons (.cst (.int 1)) .nil))) .nil)) (.cst (.int 2)))) (.cons (.ret (.cst (.bl false))) .nil) .nil) .nil)) (.cons (.ifs (.cmp .ne (.lc false [9] (.blt false .range (.cst (.int 4))) .nil (.call true (Str.ofString "_law_view") (.cons (.var 3) (.cons (.var 9) (.cons (.var 5) .nil))))) (.bin false .mul (.lst false (.cons (.tup (.cons (.cst (.str (Str.ofString "refused"))) (.cons (.cst (.int 0)) .nil))) .nil)) (.cst (.int 4)))) (.cons (.ret (.cst (.bl false))) .nil) .nil) (.cons (.ifs (.or (.cmp .ne (.call true (Str.ofString "_law_do") (.cons (.var 3) (.cons (.tup (.cons (.cst (.str (Str.ofString "add"))) (.cons (.tup (.cons (.cst (.str (Str.ofString "f"))) .nil)) (.cons (.tup .nil) (.cons (.cst (.str (Str.ofString "yy"))) .nil))))) .nil))) (.tup (.cons (.cst (.str (Str.ofString "refused"))) (.cons (.cst (.int 14)) .nil)))) (.cmp .ne (.meth true (.var 3) (Str.ofString "tree") .nil [] .nil) (.var 4))) (.cons (.ret (.cst (.bl false))) .nil) .nil) (.cons (.ret (.and (.cmp .is (.call true (Str.ofString "_law_do") (.cons (.var 3) (.cons (.tup (.cons (.cst (.str (Str.ofString "add"))) (.cons (.tup (.cons (.cst (.str (Str.ofString "f"))) .nil)) (.cons (.tup .nil) (.cons (.cst (.str (Str.ofString "y"))) .nil))))) .nil))) (.cst .non)) (.cmp .eq (.meth true (.var 3) (Str.ofString "read") (.cons (.tup (.cons (.cst (.str (Str.ofString "f"))) .nil)) .nil) [] .nil) (.bin false .add (.bin false .mul (.cst (.str (Str.ofString "x"))) (.cst (.int 39))) (.cst (.str (Str.ofString "y"))))))) .nil)))))))))))), [(Str.ofString "_law_script")], none⟩
def f_House_init : Fun := ⟨2, 2, [.non], (.cons (.ifs (.cmp .isnt (.var 1) (.cst .non)) (.cons (.expr (.call true (Str.ofString "need_tree") (.cons (.var 1) .nil))) .nil) .nil) (.cons (.asg (.fld (.var 0) (Str.ofString "things")) (.ite (.cmp .is (.var 1) (.cst .non)) (.dct true (.cons (.tup .nil) (.cons (.glb (Str.ofString "DRAWER")) .nil))) (.call false (Str.ofString "numbered") (.cons (.var 1) .nil)))) (.cons (.asg (.fld (.var 0) (Str.ofString "fresh")) (.blt false .len (.fld (.var 0) (Str.ofString "things")))) .nil))), [(Str.ofString "self"), (Str.ofString "tree")], none⟩
def f_House_make : Fun := ⟨2, 2, [], (.cons (.expr (.call true (Str.ofString "check_make") (.cons (.fld (.var 0) (Str.ofString "things")) (.cons (.var 1) .nil)))) (.cons (.asg (.sub (.fld (.var 0) (Str.ofString "things")) (.var 1)) (.glb (Str.ofString "DRAWER"))) .nil)), [(Str.ofString "self"), (Str.ofString "path")], none⟩
def f_House_give : Fun := ⟨3, 4, [], (.cons (.fors [3] (.call true (Str.ofString "same_file") (.cons (.fld (.var 0) (Str.ofString "things")) (.cons (.var 1) .nil))) (.cons (.asg (.sub (.fld (.var 0) (Str.ofString "things")) (.var 3)) (.tup (.cons (.cst (.str (Str.ofString "file"))) (.cons (.idx (.idx (.fld (.var 0) (Str.ofString "things")) (.var 3)) (.cst (.int 1))) (.cons (.var 2) .nil))))) .nil)) .nil), [(Str.ofString "self"), (Str.ofString "path"), (Str.ofString "text")], none⟩
def f_House_write : Fun := ⟨3, 3, [], (.cons (.expr (.call true (Str.ofString "check_write") (.cons (.fld (.var 0) (Str.ofString "things")) (.cons (.var 1) (.cons (.var 2) .nil))))) (.cons (.ifs (.cmp .isin (.var 1) (.fld (.var 0) (Str.ofString "things"))) (.cons (.expr (.meth true (.var 0) (Str.ofString "give") (.cons (.var 1) (.cons (.var 2) .nil)) [] .nil)) .nil) (.cons (.asg (.sub (.fld (.var 0) (Str.ofString "things")) (.var 1)) (.tup (.cons (.cst (.str (Str.ofString "file"))) (.cons (.fld (.var 0) (Str.ofString "fresh")) (.cons (.var 2) .nil))))) (.cons (.aug (.fld (.var 0) (Str.ofString "fresh")) (.cst (.int 1))) .nil))) .nil)), [(Str.ofString "self"), (Str.ofString "path"), (Str.ofString "text")], some (Str.ofString "text")⟩
def f_House_add : Fun := ⟨3, 3, [], (.cons (.expr (.call true (Str.ofString "check_add") (.cons (.fld (.var 0) (Str.ofString "things")) (.cons (.var 1) (.cons (.var 2) .nil))))) (.cons (.expr (.meth true (.var 0) (Str.ofString "give") (.cons (.var 1) (.cons (.bin false .add (.idx (.idx (.fld (.var 0) (Str.ofString "things")) (.var 1)) (.cst (.int 2))) (.var 2)) .nil)) [] .nil)) .nil)), [(Str.ofString "self"), (Str.ofString "path"), (Str.ofString "text")], some (Str.ofString "text")⟩
def f_House_remove : Fun := ⟨2, 2, [], (.cons (.expr (.call true (Str.ofString "check_remove") (.cons (.fld (.var 0) (Str.ofString "things")) (.cons (.var 1) .nil)))) (.cons (.expr (.bm .pop (.fld (.var 0) (Str.ofString "things")) (.cons (.var 1) .nil))) .nil)), [(Str.ofString "self"), (Str.ofString "path")], none⟩
def f_House_clear : Fun := ⟨2, 3, [], (.cons (.expr (.call true (Str.ofString "check_clear") (.cons (.fld (.var 0) (Str.ofString "things")) (.cons (.var 1) .nil)))) (.cons (.fors [2] (.call true (Str.ofString "part_of") (.cons (.fld (.var 0) (Str.ofString "things")) (.cons (.var 1) .nil))) (.cons (.expr (.bm .pop (.fld (.var 0) (Str.ofString "things")) (.cons (.var 2) .nil))) .nil)) .nil)), [(Str.ofString "self"), (Str.ofString "path")], none⟩
def f_House_move : Fun := ⟨3, 4, [], (.cons (.expr (.call true (Str.ofString "check_move") (.cons (.fld (.var 0) (Str.ofString "things")) (.cons (.var 1) (.cons (.var 2) .nil))))) (.cons (.fors [3] (.call true (Str.ofString "part_of") (.cons (.fld (.var 0) (Str.ofString "things")) (.cons (.var 1) .nil))) (.cons (.asg (.sub (.fld (.var 0) (Str.ofString "things")) (.bin false .add (.var 2) (.slc (.var 3) (.cons (.blt false .len (.var 1)) .nil) .nil))) (.bm .pop (.fld (.var 0) (Str.ofString "things")) (.cons (.var 3) .nil))) .nil)) .nil)), [(Str.ofString "self"), (Str.ofString "old"), (Str.ofString "new")], none⟩
def f_House_tie : Fun := ⟨3, 3, [], (.cons (.expr (.call true (Str.ofString "check_tie") (.cons (.fld (.var 0) (Str.ofString "things")) (.cons (.var 1) (.cons (.var 2) .nil))))) (.cons (.asg (.sub (.fld (.var 0) (Str.ofString "things")) (.var 2)) (.idx (.fld (.var 0) (Str.ofString "things")) (.var 1))) .nil)), [(Str.ofString "self"), (Str.ofString "old"), (Str.ofString "new")], none⟩
def f_House_kind : Fun := ⟨2, 2, [], (.cons (.expr (.call true (Str.ofString "need_path") (.cons (.var 1) .nil))) (.cons (.ret (.ite (.cmp .isin (.var 1) (.fld (.var 0) (Str.ofString "things"))) (.idx (.idx (.fld (.var 0) (Str.ofString "things")) (.var 1)) (.cst (.int 0))) (.cst .non))) .nil)), [(Str.ofString "self"), (Str.ofString "path")], none⟩
def f_House_read : Fun := ⟨2, 2, [], (.cons (.expr (.call true (Str.ofString "check_read") (.cons (.fld (.var 0) (Str.ofString "things")) (.cons (.var 1) .nil)))) (.cons (.ret (.idx (.idx (.fld (.var 0) (Str.ofString "things")) (.var 1)) (.cst (.int 2)))) .nil)), [(Str.ofString "self"), (Str.ofString "path")], none⟩
def f_House_listed : Fun := ⟨2, 2, [], (.cons (.expr (.call true (Str.ofString "check_list") (.cons (.fld (.var 0) (Str.ofString "things")) (.cons (.var 1) .nil)))) (.cons (.ret (.call true (Str.ofString "names_at") (.cons (.fld (.var 0) (Str.ofString "things")) (.cons (.var 1) .nil)))) .nil)), [(Str.ofString "self"), (Str.ofString "path")], none⟩
def f_House_tied : Fun := ⟨2, 2, [], (.cons (.expr (.call true (Str.ofString "check_read") (.cons (.fld (.var 0) (Str.ofString "things")) (.cons (.var 1) .nil)))) (.cons (.ret (.call true (Str.ofString "same_file") (.cons (.fld (.var 0) (Str.ofString "things")) (.cons (.var 1) .nil)))) .nil)), [(Str.ofString "self"), (Str.ofString "path")], none⟩
def f_House_tree : Fun := ⟨1, 1, [], (.cons (.ret (.call true (Str.ofString "numbered") (.cons (.fld (.var 0) (Str.ofString "things")) .nil))) .nil), [(Str.ofString "self")], none⟩
def f_House_twin : Fun := ⟨1, 1, [], (.cons (.expr (.call true (Str.ofString "_wall") (.cons (.cst (.int 0)) .nil))) .nil), [(Str.ofString "self")], none⟩
def f_House_len : Fun := ⟨1, 1, [], (.cons (.ret (.blt false .len (.fld (.var 0) (Str.ofString "things")))) .nil), [(Str.ofString "self")], none⟩
def clT : List (Str × List (Str × Fun) × List Str) := [((Str.ofString "House"), [((Str.ofString "__init__"), f_House_init), ((Str.ofString "make"), f_House_make), ((Str.ofString "give"), f_House_give), ((Str.ofString "write"), f_House_write), ((Str.ofString "add"), f_House_add), ((Str.ofString "remove"), f_House_remove), ((Str.ofString "clear"), f_House_clear), ((Str.ofString "move"), f_House_move), ((Str.ofString "tie"), f_House_tie), ((Str.ofString "kind"), f_House_kind), ((Str.ofString "read"), f_House_read), ((Str.ofString "listed"), f_House_listed), ((Str.ofString "tied"), f_House_tied), ((Str.ofString "tree"), f_House_tree), ((Str.ofString "twin"), f_House_twin), ((Str.ofString "__len__"), f_House_len)], [Str.ofString "things", Str.ofString "fresh"])]
def fnT : List (Str × Fun) := [((Str.ofString "_wall"), f_wall), ((Str.ofString "is_whole"), f_is_whole), ((Str.ofString "is_name"), f_is_name), ((Str.ofString "is_path"), f_is_path), ((Str.ofString "is_text"), f_is_text), ((Str.ofString "need_path"), f_need_path), ((Str.ofString "need_text"), f_need_text), ((Str.ofString "lies_within"), f_lies_within), ((Str.ofString "is_file"), f_is_file), ((Str.ofString "one_text"), f_one_text), ((Str.ofString "is_tree"), f_is_tree), ((Str.ofString "need_tree"), f_need_tree), ((Str.ofString "numbered"), f_numbered), ((Str.ofString "names_at"), f_names_at), ((Str.ofString "same_file"), f_same_file), ((Str.ofString "part_of"), f_part_of), ((Str.ofString "need_not_root"), f_need_not_root), ((Str.ofString "need_there"), f_need_there), ((Str.ofString "need_place"), f_need_place), ((Str.ofString "need_free"), f_need_free), ((Str.ofString "need_file"), f_need_file), ((Str.ofString "need_room"), f_need_room), ((Str.ofString "check_make"), f_check_make), ((Str.ofString "check_write"), f_check_write), ((Str.ofString "check_read"), f_check_read), ((Str.ofString "check_add"), f_check_add), ((Str.ofString "check_remove"), f_check_remove), ((Str.ofString "check_clear"), f_check_clear), ((Str.ofString "check_move"), f_check_move), ((Str.ofString "check_tie"), f_check_tie), ((Str.ofString "check_list"), f_check_list), ((Str.ofString "_law_draw"), f_law_draw), ((Str.ofString "_law_pick"), f_law_pick), ((Str.ofString "_law_letter"), f_law_letter), ((Str.ofString "_law_text"), f_law_text), ((Str.ofString "_law_tree"), f_law_tree), ((Str.ofString "_law_no_path"), f_law_no_path), ((Str.ofString "_law_no_tree"), f_law_no_tree), ((Str.ofString "_law_path"), f_law_path), ((Str.ofString "_law_chosen"), f_law_chosen), ((Str.ofString "_law_do"), f_law_do), ((Str.ofString "_law_made"), f_law_made), ((Str.ofString "_law_view"), f_law_view), ((Str.ofString "law"), f_law)]
def excN : List Str := [Str.ofString "NoPath", Str.ofString "NoText", Str.ofString "NoTree", Str.ofString "Root", Str.ofString "NotThere", Str.ofString "NoDrawer", Str.ofString "IsDrawer", Str.ofString "Taken", Str.ofString "NotEmpty", Str.ofString "Within", Str.ofString "TooLong", Str.ofString "Full"]
def strT : List (Str × Str) := [((Str.ofString "LETTERS"), (Str.ofString "abcdefghijklmnopqrstuvwxyz"))]
def intT : List (Str × Int) := [((Str.ofString "MOST"), 80)]
def tupT : List (Str × Str) := [((Str.ofString "DRAWER"), (Str.ofString "drawer"))]
def fvN : List Str := []
def P : Prog := progOf fnT excN strT intT tupT fvN true clT
theorem gl_whi : P.whi = true := by rfl
theorem gl_exc_NoPath : (Str.ofString "NoPath") ∈ P.exc := by decide +kernel
theorem gl_exc_NoText : (Str.ofString "NoText") ∈ P.exc := by decide +kernel
theorem gl_exc_NoTree : (Str.ofString "NoTree") ∈ P.exc := by decide +kernel
theorem gl_exc_Root : (Str.ofString "Root") ∈ P.exc := by decide +kernel
theorem gl_exc_NotThere : (Str.ofString "NotThere") ∈ P.exc := by decide +kernel
theorem gl_exc_NoDrawer : (Str.ofString "NoDrawer") ∈ P.exc := by decide +kernel
theorem gl_exc_IsDrawer : (Str.ofString "IsDrawer") ∈ P.exc := by decide +kernel
theorem gl_exc_Taken : (Str.ofString "Taken") ∈ P.exc := by decide +kernel
theorem gl_exc_NotEmpty : (Str.ofString "NotEmpty") ∈ P.exc := by decide +kernel
theorem gl_exc_Within : (Str.ofString "Within") ∈ P.exc := by decide +kernel
theorem gl_exc_TooLong : (Str.ofString "TooLong") ∈ P.exc := by decide +kernel
theorem gl_exc_Full : (Str.ofString "Full") ∈ P.exc := by decide +kernel
theorem fn_wall : P.fn (Str.ofString "_wall") = some f_wall := by rfl
theorem fn_is_whole : P.fn (Str.ofString "is_whole") = some f_is_whole := by rfl
theorem fn_is_name : P.fn (Str.ofString "is_name") = some f_is_name := by rfl
theorem fn_is_path : P.fn (Str.ofString "is_path") = some f_is_path := by rfl
theorem fn_is_text : P.fn (Str.ofString "is_text") = some f_is_text := by rfl
theorem fn_need_path : P.fn (Str.ofString "need_path") = some f_need_path := by rfl
theorem fn_need_text : P.fn (Str.ofString "need_text") = some f_need_text := by rfl
theorem fn_lies_within : P.fn (Str.ofString "lies_within") = some f_lies_within := by rfl
theorem fn_is_file : P.fn (Str.ofString "is_file") = some f_is_file := by rfl
theorem fn_one_text : P.fn (Str.ofString "one_text") = some f_one_text := by rfl
theorem fn_is_tree : P.fn (Str.ofString "is_tree") = some f_is_tree := by rfl
theorem fn_need_tree : P.fn (Str.ofString "need_tree") = some f_need_tree := by rfl
theorem fn_numbered : P.fn (Str.ofString "numbered") = some f_numbered := by rfl
theorem fn_names_at : P.fn (Str.ofString "names_at") = some f_names_at := by rfl
theorem fn_same_file : P.fn (Str.ofString "same_file") = some f_same_file := by rfl
theorem fn_part_of : P.fn (Str.ofString "part_of") = some f_part_of := by rfl
theorem fn_need_not_root : P.fn (Str.ofString "need_not_root") = some f_need_not_root := by rfl
theorem fn_need_there : P.fn (Str.ofString "need_there") = some f_need_there := by rfl
theorem fn_need_place : P.fn (Str.ofString "need_place") = some f_need_place := by rfl
theorem fn_need_free : P.fn (Str.ofString "need_free") = some f_need_free := by rfl
theorem fn_need_file : P.fn (Str.ofString "need_file") = some f_need_file := by rfl
theorem fn_need_room : P.fn (Str.ofString "need_room") = some f_need_room := by rfl
theorem fn_check_make : P.fn (Str.ofString "check_make") = some f_check_make := by rfl
theorem fn_check_write : P.fn (Str.ofString "check_write") = some f_check_write := by rfl
theorem fn_check_read : P.fn (Str.ofString "check_read") = some f_check_read := by rfl
theorem fn_check_add : P.fn (Str.ofString "check_add") = some f_check_add := by rfl
theorem fn_check_remove : P.fn (Str.ofString "check_remove") = some f_check_remove := by rfl
theorem fn_check_clear : P.fn (Str.ofString "check_clear") = some f_check_clear := by rfl
theorem fn_check_move : P.fn (Str.ofString "check_move") = some f_check_move := by rfl
theorem fn_check_tie : P.fn (Str.ofString "check_tie") = some f_check_tie := by rfl
theorem fn_check_list : P.fn (Str.ofString "check_list") = some f_check_list := by rfl
theorem fn_law_draw : P.fn (Str.ofString "_law_draw") = some f_law_draw := by rfl
theorem fn_law_pick : P.fn (Str.ofString "_law_pick") = some f_law_pick := by rfl
theorem fn_law_letter : P.fn (Str.ofString "_law_letter") = some f_law_letter := by rfl
theorem fn_law_text : P.fn (Str.ofString "_law_text") = some f_law_text := by rfl
theorem fn_law_tree : P.fn (Str.ofString "_law_tree") = some f_law_tree := by rfl
theorem fn_law_no_path : P.fn (Str.ofString "_law_no_path") = some f_law_no_path := by rfl
theorem fn_law_no_tree : P.fn (Str.ofString "_law_no_tree") = some f_law_no_tree := by rfl
theorem fn_law_path : P.fn (Str.ofString "_law_path") = some f_law_path := by rfl
theorem fn_law_chosen : P.fn (Str.ofString "_law_chosen") = some f_law_chosen := by rfl
theorem fn_law_do : P.fn (Str.ofString "_law_do") = some f_law_do := by rfl
theorem fn_law_made : P.fn (Str.ofString "_law_made") = some f_law_made := by rfl
theorem fn_law_view : P.fn (Str.ofString "_law_view") = some f_law_view := by rfl
theorem fn_law : P.fn (Str.ofString "law") = some f_law := by rfl
theorem ar_wall : arity (P.fn (Str.ofString "_wall")) 1 = some f_wall := by rfl
theorem ar_is_whole : arity (P.fn (Str.ofString "is_whole")) 3 = some f_is_whole := by rfl
theorem ar_is_name : arity (P.fn (Str.ofString "is_name")) 1 = some f_is_name := by rfl
theorem ar_is_path : arity (P.fn (Str.ofString "is_path")) 1 = some f_is_path := by rfl
theorem ar_is_text : arity (P.fn (Str.ofString "is_text")) 1 = some f_is_text := by rfl
theorem ar_need_path : arity (P.fn (Str.ofString "need_path")) 1 = some f_need_path := by rfl
theorem ar_need_text : arity (P.fn (Str.ofString "need_text")) 1 = some f_need_text := by rfl
theorem ar_lies_within : arity (P.fn (Str.ofString "lies_within")) 2 = some f_lies_within := by rfl
theorem ar_is_file : arity (P.fn (Str.ofString "is_file")) 1 = some f_is_file := by rfl
theorem ar_one_text : arity (P.fn (Str.ofString "one_text")) 1 = some f_one_text := by rfl
theorem ar_is_tree : arity (P.fn (Str.ofString "is_tree")) 1 = some f_is_tree := by rfl
theorem ar_need_tree : arity (P.fn (Str.ofString "need_tree")) 1 = some f_need_tree := by rfl
theorem ar_numbered : arity (P.fn (Str.ofString "numbered")) 1 = some f_numbered := by rfl
theorem ar_names_at : arity (P.fn (Str.ofString "names_at")) 2 = some f_names_at := by rfl
theorem ar_same_file : arity (P.fn (Str.ofString "same_file")) 2 = some f_same_file := by rfl
theorem ar_part_of : arity (P.fn (Str.ofString "part_of")) 2 = some f_part_of := by rfl
theorem ar_need_not_root : arity (P.fn (Str.ofString "need_not_root")) 1 = some f_need_not_root := by rfl
theorem ar_need_there : arity (P.fn (Str.ofString "need_there")) 2 = some f_need_there := by rfl
theorem ar_need_place : arity (P.fn (Str.ofString "need_place")) 2 = some f_need_place := by rfl
theorem ar_need_free : arity (P.fn (Str.ofString "need_free")) 2 = some f_need_free := by rfl
theorem ar_need_file : arity (P.fn (Str.ofString "need_file")) 2 = some f_need_file := by rfl
theorem ar_need_room : arity (P.fn (Str.ofString "need_room")) 1 = some f_need_room := by rfl
theorem ar_check_make : arity (P.fn (Str.ofString "check_make")) 2 = some f_check_make := by rfl
theorem ar_check_write : arity (P.fn (Str.ofString "check_write")) 3 = some f_check_write := by rfl
theorem ar_check_read : arity (P.fn (Str.ofString "check_read")) 2 = some f_check_read := by rfl
theorem ar_check_add : arity (P.fn (Str.ofString "check_add")) 3 = some f_check_add := by rfl
theorem ar_check_remove : arity (P.fn (Str.ofString "check_remove")) 2 = some f_check_remove := by rfl
theorem ar_check_clear : arity (P.fn (Str.ofString "check_clear")) 2 = some f_check_clear := by rfl
theorem ar_check_move : arity (P.fn (Str.ofString "check_move")) 3 = some f_check_move := by rfl
theorem ar_check_tie : arity (P.fn (Str.ofString "check_tie")) 3 = some f_check_tie := by rfl
theorem ar_check_list : arity (P.fn (Str.ofString "check_list")) 2 = some f_check_list := by rfl
theorem ar_law_draw : arity (P.fn (Str.ofString "_law_draw")) 3 = some f_law_draw := by rfl
theorem ar_law_pick : arity (P.fn (Str.ofString "_law_pick")) 3 = some f_law_pick := by rfl
theorem ar_law_letter : arity (P.fn (Str.ofString "_law_letter")) 2 = some f_law_letter := by rfl
theorem ar_law_text : arity (P.fn (Str.ofString "_law_text")) 2 = some f_law_text := by rfl
theorem ar_law_tree : arity (P.fn (Str.ofString "_law_tree")) 3 = some f_law_tree := by rfl
theorem ar_law_no_path : arity (P.fn (Str.ofString "_law_no_path")) 2 = some f_law_no_path := by rfl
theorem ar_law_no_tree : arity (P.fn (Str.ofString "_law_no_tree")) 2 = some f_law_no_tree := by rfl
theorem ar_law_path : arity (P.fn (Str.ofString "_law_path")) 3 = some f_law_path := by rfl
theorem ar_law_chosen : arity (P.fn (Str.ofString "_law_chosen")) 3 = some f_law_chosen := by rfl
theorem ar_law_do : arity (P.fn (Str.ofString "_law_do")) 2 = some f_law_do := by rfl
theorem ar_law_made : arity (P.fn (Str.ofString "_law_made")) 1 = some f_law_made := by rfl
theorem ar_law_view : arity (P.fn (Str.ofString "_law_view")) 3 = some f_law_view := by rfl
theorem ar_law : arity (P.fn (Str.ofString "law")) 1 = some f_law := by rfl
theorem nq_House_1 : newQ P (Str.ofString "House") 1 [] = some f_House_init := by rfl
theorem nq_House_2 : newQ P (Str.ofString "House") 2 [] = some f_House_init := by rfl
theorem mq_House_make {Z : Sto} {l : Nat} {v0 v1 : D} (h : Z[l]? = some (.ins (Str.ofString "House") [((Str.ofString "things"), v0), ((Str.ofString "fresh"), v1)])) : methQ P Z (.loc l) (Str.ofString "make") 2 [] = some f_House_make := by simp only [methQ, h]; rfl
theorem mq_House_give {Z : Sto} {l : Nat} {v0 v1 : D} (h : Z[l]? = some (.ins (Str.ofString "House") [((Str.ofString "things"), v0), ((Str.ofString "fresh"), v1)])) : methQ P Z (.loc l) (Str.ofString "give") 3 [] = some f_House_give := by simp only [methQ, h]; rfl
theorem mq_House_write {Z : Sto} {l : Nat} {v0 v1 : D} (h : Z[l]? = some (.ins (Str.ofString "House") [((Str.ofString "things"), v0), ((Str.ofString "fresh"), v1)])) : methQ P Z (.loc l) (Str.ofString "write") 3 [(Str.ofString "text")] = some f_House_write := by simp only [methQ, h]; rfl
theorem mq_House_add {Z : Sto} {l : Nat} {v0 v1 : D} (h : Z[l]? = some (.ins (Str.ofString "House") [((Str.ofString "things"), v0), ((Str.ofString "fresh"), v1)])) : methQ P Z (.loc l) (Str.ofString "add") 3 [(Str.ofString "text")] = some f_House_add := by simp only [methQ, h]; rfl
theorem mq_House_remove {Z : Sto} {l : Nat} {v0 v1 : D} (h : Z[l]? = some (.ins (Str.ofString "House") [((Str.ofString "things"), v0), ((Str.ofString "fresh"), v1)])) : methQ P Z (.loc l) (Str.ofString "remove") 2 [] = some f_House_remove := by simp only [methQ, h]; rfl
theorem mq_House_clear {Z : Sto} {l : Nat} {v0 v1 : D} (h : Z[l]? = some (.ins (Str.ofString "House") [((Str.ofString "things"), v0), ((Str.ofString "fresh"), v1)])) : methQ P Z (.loc l) (Str.ofString "clear") 2 [] = some f_House_clear := by simp only [methQ, h]; rfl
theorem mq_House_move {Z : Sto} {l : Nat} {v0 v1 : D} (h : Z[l]? = some (.ins (Str.ofString "House") [((Str.ofString "things"), v0), ((Str.ofString "fresh"), v1)])) : methQ P Z (.loc l) (Str.ofString "move") 3 [] = some f_House_move := by simp only [methQ, h]; rfl
theorem mq_House_tie {Z : Sto} {l : Nat} {v0 v1 : D} (h : Z[l]? = some (.ins (Str.ofString "House") [((Str.ofString "things"), v0), ((Str.ofString "fresh"), v1)])) : methQ P Z (.loc l) (Str.ofString "tie") 3 [] = some f_House_tie := by simp only [methQ, h]; rfl
theorem mq_House_kind {Z : Sto} {l : Nat} {v0 v1 : D} (h : Z[l]? = some (.ins (Str.ofString "House") [((Str.ofString "things"), v0), ((Str.ofString "fresh"), v1)])) : methQ P Z (.loc l) (Str.ofString "kind") 2 [] = some f_House_kind := by simp only [methQ, h]; rfl
theorem mq_House_read {Z : Sto} {l : Nat} {v0 v1 : D} (h : Z[l]? = some (.ins (Str.ofString "House") [((Str.ofString "things"), v0), ((Str.ofString "fresh"), v1)])) : methQ P Z (.loc l) (Str.ofString "read") 2 [] = some f_House_read := by simp only [methQ, h]; rfl
theorem mq_House_listed {Z : Sto} {l : Nat} {v0 v1 : D} (h : Z[l]? = some (.ins (Str.ofString "House") [((Str.ofString "things"), v0), ((Str.ofString "fresh"), v1)])) : methQ P Z (.loc l) (Str.ofString "listed") 2 [] = some f_House_listed := by simp only [methQ, h]; rfl
theorem mq_House_tied {Z : Sto} {l : Nat} {v0 v1 : D} (h : Z[l]? = some (.ins (Str.ofString "House") [((Str.ofString "things"), v0), ((Str.ofString "fresh"), v1)])) : methQ P Z (.loc l) (Str.ofString "tied") 2 [] = some f_House_tied := by simp only [methQ, h]; rfl
theorem mq_House_tree {Z : Sto} {l : Nat} {v0 v1 : D} (h : Z[l]? = some (.ins (Str.ofString "House") [((Str.ofString "things"), v0), ((Str.ofString "fresh"), v1)])) : methQ P Z (.loc l) (Str.ofString "tree") 1 [] = some f_House_tree := by simp only [methQ, h]; rfl
theorem mq_House_twin {Z : Sto} {l : Nat} {v0 v1 : D} (h : Z[l]? = some (.ins (Str.ofString "House") [((Str.ofString "things"), v0), ((Str.ofString "fresh"), v1)])) : methQ P Z (.loc l) (Str.ofString "twin") 1 [] = some f_House_twin := by simp only [methQ, h]; rfl
theorem mq_House_len {Z : Sto} {l : Nat} {v0 v1 : D} (h : Z[l]? = some (.ins (Str.ofString "House") [((Str.ofString "things"), v0), ((Str.ofString "fresh"), v1)])) : methQ P Z (.loc l) (Str.ofString "__len__") 1 [] = some f_House_len := by simp only [methQ, h]; rfl
theorem fg_House_things {Z : Sto} {l : Nat} {v0 v1 : D} (h : Z[l]? = some (.ins (Str.ofString "House") [((Str.ofString "things"), v0), ((Str.ofString "fresh"), v1)])) : fldGet P Z (.loc l) (Str.ofString "things") = some v0 := by simp only [fldGet, h]; rfl
theorem fs_House_things {Z : Sto} {l : Nat} {v0 v1 d : D} (h : Z[l]? = some (.ins (Str.ofString "House") [((Str.ofString "things"), v0), ((Str.ofString "fresh"), v1)])) : fldSet P Z (.loc l) (Str.ofString "things") d = some (Z.set l (.ins (Str.ofString "House") [((Str.ofString "things"), d), ((Str.ofString "fresh"), v1)])) := by simp only [fldSet, h]; rfl
theorem fg_House_fresh {Z : Sto} {l : Nat} {v0 v1 : D} (h : Z[l]? = some (.ins (Str.ofString "House") [((Str.ofString "things"), v0), ((Str.ofString "fresh"), v1)])) : fldGet P Z (.loc l) (Str.ofString "fresh") = some v1 := by simp only [fldGet, h]; rfl
theorem fs_House_fresh {Z : Sto} {l : Nat} {v0 v1 d : D} (h : Z[l]? = some (.ins (Str.ofString "House") [((Str.ofString "things"), v0), ((Str.ofString "fresh"), v1)])) : fldSet P Z (.loc l) (Str.ofString "fresh") d = some (Z.set l (.ins (Str.ofString "House") [((Str.ofString "things"), v0), ((Str.ofString "fresh"), d)])) := by simp only [fldSet, h]; rfl
theorem gl_LETTERS : P.glb (Str.ofString "LETTERS") = some (.str (Str.ofString "abcdefghijklmnopqrstuvwxyz")) := by rfl
theorem gl_MOST : P.glb (Str.ofString "MOST") = some (.int 80) := by rfl
theorem gl_DRAWER : P.glb (Str.ofString "DRAWER") = some (.tup [.str (Str.ofString "drawer")]) := by rfl
end Lt
namespace Lt
open PySem PySem.Spec PyProof.Rows L2
def tops : List Stmt := PySem.Challenge.pw_laidtrees_k13_house_refused.main.body
def top (i : Nat) : Stmt := tops.getD i (.Pass ⟨0, 0, 0, 0⟩)
def dM (c m : Str) (i j : Nat) (q : Str) (dv : List He.Dv) : He.DefD := ⟨(c, some m), m, q, defArgs (inClass (top i) j), defBody (inClass (top i) j), defScope (inClass (top i) j), dv, []⟩
def dF (x : Str) (i : Nat) : He.DefD := ⟨(x, none), x, x, defArgs (top i), defBody (top i), defScope (top i), [], []⟩
def fn0 : List He.DefD := [dF "_wall" 0,
  dF "is_whole" 22,
  dF "is_name" 23,
  dF "is_path" 24,
  dF "is_text" 25,
  dF "need_path" 26,
  dF "need_text" 27,
  dF "lies_within" 28,
  dF "is_file" 32,
  dF "one_text" 33,
  dF "is_tree" 34,
  dF "need_tree" 35,
  dF "numbered" 36,
  dF "names_at" 37,
  dF "same_file" 38,
  dF "part_of" 39,
  dF "need_not_root" 41,
  dF "need_there" 42,
  dF "need_place" 43,
  dF "need_free" 44]
def fn1 : List He.DefD := [dF "need_file" 45,
  dF "need_room" 46,
  dF "check_make" 47,
  dF "check_write" 48,
  dF "check_read" 49,
  dF "check_add" 50,
  dF "check_remove" 51,
  dF "check_clear" 52,
  dF "check_move" 53,
  dF "check_tie" 54,
  dF "check_list" 55,
  dF "_law_draw" 59,
  dF "_law_pick" 60,
  dF "_law_letter" 61,
  dF "_law_text" 62,
  dF "_law_tree" 63,
  dF "_law_no_path" 64,
  dF "_law_no_tree" 65,
  dF "_law_which" 66,
  dF "_law_path" 67]
def fn2 : List He.DefD := [dF "_law_chosen" 68,
  dF "_law_do" 69,
  dF "_law_made" 70,
  dF "_law_view" 71,
  dF "law" 72,
  dM "House" "__init__" 57 0 "House.__init__" [.non],
  dM "House" "make" 57 1 "House.make" [],
  dM "House" "give" 57 2 "House.give" [],
  dM "House" "write" 57 3 "House.write" [],
  dM "House" "add" 57 4 "House.add" [],
  dM "House" "remove" 57 5 "House.remove" [],
  dM "House" "clear" 57 6 "House.clear" [],
  dM "House" "move" 57 7 "House.move" [],
  dM "House" "tie" 57 8 "House.tie" [],
  dM "House" "kind" 57 9 "House.kind" [],
  dM "House" "read" 57 10 "House.read" [],
  dM "House" "listed" 57 11 "House.listed" [],
  dM "House" "tied" 57 12 "House.tied" [],
  dM "House" "tree" 57 13 "House.tree" [],
  dM "House" "twin" 57 14 "House.twin" []]
def fn3 : List He.DefD := [dM "House" "__len__" 57 15 "House.__len__" []]
def fn : List He.DefD := fn0 ++ fn1 ++ fn2 ++ fn3
def fa : List He.Fa := faOf fnT excN strT intT tupT clT
def looseN : List Str := ([Str.ofString "_wall", Str.ofString "TreeError", Str.ofString "NoPath", Str.ofString "NoText", Str.ofString "NoTree", Str.ofString "NoLayer", Str.ofString "NoStack", Str.ofString "NoHandle", Str.ofString "NoPower", Str.ofString "Root", Str.ofString "NotThere", Str.ofString "NoDrawer", Str.ofString "IsDrawer", Str.ofString "Taken", Str.ofString "NotEmpty", Str.ofString "Within", Str.ofString "TooLong", Str.ofString "Full", Str.ofString "Dark", Str.ofString "LETTERS"] : List Str) ++ ([Str.ofString "is_whole", Str.ofString "is_name", Str.ofString "is_path", Str.ofString "is_text", Str.ofString "need_path", Str.ofString "need_text", Str.ofString "lies_within", Str.ofString "DRAWER", Str.ofString "MOST", Str.ofString "is_file", Str.ofString "one_text", Str.ofString "is_tree", Str.ofString "need_tree", Str.ofString "numbered", Str.ofString "names_at", Str.ofString "same_file", Str.ofString "part_of", Str.ofString "need_not_root", Str.ofString "need_there", Str.ofString "need_place"] : List Str) ++ ([Str.ofString "need_free", Str.ofString "need_file", Str.ofString "need_room", Str.ofString "check_make", Str.ofString "check_write", Str.ofString "check_read", Str.ofString "check_add", Str.ofString "check_remove", Str.ofString "check_clear", Str.ofString "check_move", Str.ofString "check_tie", Str.ofString "check_list", Str.ofString "House", Str.ofString "_law_draw", Str.ofString "_law_pick", Str.ofString "_law_letter", Str.ofString "_law_text", Str.ofString "_law_tree", Str.ofString "_law_no_path", Str.ofString "_law_no_tree"] : List Str) ++ ([Str.ofString "_law_which", Str.ofString "_law_path", Str.ofString "_law_chosen", Str.ofString "_law_do", Str.ofString "_law_made", Str.ofString "_law_view"] : List Str)
abbrev Rw : PySem.W.OpenRow := PySem.W.OpenLaw.row PySem.Challenge.rw_laidtrees_k13_house_refused
def xB : PySem.W.Frag → Bool := Lt.whXB excN
abbrev hk : PySem.W.Hook := Lt.hookM 5 fa fn tupT xB
def ob (s : PySem.W.SharedT) : He.AlD × Bool := Lt.obM 5 fa fn tupT xB s
theorem ob_eq (s : PySem.W.SharedT) : ob s = hk.obs s.abs := Lt.obM_eq 5 fa fn tupT xB s
section
open HandSHeadRun PySem.W
noncomputable abbrev runX (w : World) (os : OsState) := endF (stepQ (denQ tabQ) Rw.prog w) 40000 Rw.prog w os
theorem runA (w : World) (os : OsState) : (runX w os).map (fun s => (looksF Rw.prog (boot_heap w.params) s.abs, seenQ (view Rw.prog [72]) looseN (importedModules Rw.prog.main.body) (fun s => xlAt (view Rw.prog [72]) [] s && recOk Rw.toRowW.records s) s.abs)) = some (true, openGood (view Rw.prog [72]) looseN) := by kernel_rfl
theorem runC (w : World) (os : OsState) : (runX w os).map (fun s => ob s) = some (hk.val w) := by kernel_rfl
end
theorem run (w : World) : HandSHeadRun.RunEq Rw (PySem.W.view Rw.prog [72]) hk ob 40000 looseN w := fun os => two_runs (runA w os) (runC w os)

end Lt
namespace Lt
open PySem (Str)
/-! Draw: what a law draws of its script. -/
structure Town where
  a : Nat
  b : Nat
def tw (t : Town) : Ob := .lst [.int t.a, .int t.b]
def dv (ns : List Int) (t : Town) (m : Nat) : Nat :=
  if 0 < t.b then t.b % m
  else if ns = [] then t.a % m
  else if t.a < ns.length ∧ 10 ^ 18 ≤ ns.getD t.a 0 then (ns.getD t.a 0 % m).toNat
  else (((ns.getD (t.a % ns.length) 0 * 1103515245 + 7919 * t.a + 12345) % 2147483647) ^ 5 % 2147483647 % 999983 % m).toNat
def dt (ns : List Int) (t : Town) (m : Nat) : Town :=
  if 0 < t.b then ⟨t.a, t.b / m⟩
  else if ns = [] then ⟨t.a + 1, t.b⟩
  else if t.a < ns.length ∧ 10 ^ 18 ≤ ns.getD t.a 0 then ⟨t.a + 1, (ns.getD t.a 0 / m % (10 ^ 60 * 10 ^ 60)).toNat⟩
  else ⟨t.a + 1, t.b⟩
theorem draw_raw (n : Nat) (ns : List Int) (t : Town) (m : Nat) (r : Sto) (h : 0 < m) (h2 : m < 1073741824) :
    callN P (n + 1) f_law_draw [.vl (ns.map D.int), .loc 0, .int m] (tw t :: r) = .rt (.int (dv ns t m)) (tw (dt ns t m) :: r) := by
  have hm : (0 : Int) < m := by omega
  have hm2 : (m : Int) < 1073741824 := by omega
  have p5 : ∀ x : Int, (x % 2147483647).natAbs < 2 ^ 64 := fun x => by omega
  have f1 : flats 9 (ns.map D.int) = true := flats_map fun x _ => rfl
  have f2 : nbs (ns.map D.int) = true := nbs_map fun x _ => rfl
  unfold f_law_draw tw
  by_cases hb : 0 < t.b
  · simp [↓callN_K, ↓exs_K, ↓exsK_nil, ↓exsK_cons, ↓exK_expr, ↓exK_asg, ↓exK_ret, ↓exK_ifs, ↓exK_raise, ↓exK_any, ↓exK_cont, ↓exK_pass, ↓exK_fors, ↓exK_whl, ↓exK_tryw, ↓exK_augN, ↓exK_augS, ↓exK_augF, ↓stK_name, ↓stK_names, ↓stK_star, starS_vl, ↓stK_sub, ↓stK_fld, ↓evK_var, ↓evK_cst, ↓evK_glb, ↓evK_tup, ↓evK_lst, ↓evK_dct, ↓evK_bin, ↓evK_neg, ↓evK_not, ↓evK_and, ↓evK_or, ↓evK_ite, ↓evK_cmp, ↓evK_chn, ↓evK_idx, ↓evK_slc, ↓evK_rev, ↓evK_fld, ↓evK_call, ↓evK_calv, ↓evK_meth, ↓evK_new, ↓evK_leni, nonK_non, lenY_int, ↓evK_blt, ↓evK_bm, ↓evK_isi, ↓evK_enum, ↓evK_vals, ↓evK_lrng, ↓evK_lc, ↓evsK_nil, ↓evsK_cons, ↓evcK_nil, ↓evcK_cons, ↓rK_bind, ↓oK_rK, ↓oK_oK, ↓oK_optK, ↓oK_varK, ↓oK_blK, ↓oK_evK, ↓oK_evsK, tryO_nx, tryO_rt, tryO_exc, tryO_ite, rK_ok, rK_exc, rK_bad, rK_ite, oK_nx, oK_rt, oK_ct, oK_exc, oK_bad, oK_ite, optK_some, optK_none, optK_ite, optK_map, varK_some, blK_bl, negK_int, notK_bl, fnK_fn, enumS_vl, lrngS_int, idx_tup, idx_vl, idx_vd, idx_loc_lst, idx_loc_dct, idx_loc_fdct, idxT_int, sub_lst, aug_lst, augI_int, mkL_false, mkL_true, mkD_false, mkD_true, eqD_bl, eqD_non, eqD_flat, flat_non, flat_bl, flat_int, flat_str, flat_tup, flat_vl, flats_nil, flats_cons, flats_app, nb_non, nb_int, nb_str, nb_tup, nb_vl, nbs_nil, nbs_cons, noLoc_non, noLoc_bl, noLoc_int, noLoc_str, noLoc_tup, noLoc_vl, noLoc_vd, noLocs_nil, noLocs_cons, lit_le, le_lit, lit_lt, lt_lit, Es.len, ctK_nx, ctK_ct, ctK_rt, ctK_exc, ctK_bad, ctK_ite, ctK_rK, ctK_optK, ctK_blK, goK_nil, goK_cons, forK_tup, forK_vl, forK_vd, forK_str, bindT_one, bindT_two, wipeD_nil, wipeD_cons, unlock_tup, unlock_vl, unlock_vd, unlock_str, items_tup, items_vl, items_str, items_vd, all_vl, any_vl, tuple_vl, list_tup, list_vl, range_int, slc_tup, slc_vl, cutO_nil, cutO_int, isA_non, isA_bl, isA_int, isA_str, isA_tup, isA_vl, isA_vd, isOne_bl, len_tup, len_vl, len_vd, bin_sub, bin_add, cmp_lt, cmp_le, cmp_gt, cmp_ge, cmp_eq, cmp_ne, cmp_in, cmp_nin, cmp_is, cmp_isnt, start, h, hm2, bin_mod, bin_fdiv, hb, dv, dt, atI, L2.ixN]
  by_cases hn : ns = []
  · subst hn
    simp [↓callN_K, ↓exs_K, ↓exsK_nil, ↓exsK_cons, ↓exK_expr, ↓exK_asg, ↓exK_ret, ↓exK_ifs, ↓exK_raise, ↓exK_any, ↓exK_cont, ↓exK_pass, ↓exK_fors, ↓exK_whl, ↓exK_tryw, ↓exK_augN, ↓exK_augS, ↓exK_augF, ↓stK_name, ↓stK_names, ↓stK_star, starS_vl, ↓stK_sub, ↓stK_fld, ↓evK_var, ↓evK_cst, ↓evK_glb, ↓evK_tup, ↓evK_lst, ↓evK_dct, ↓evK_bin, ↓evK_neg, ↓evK_not, ↓evK_and, ↓evK_or, ↓evK_ite, ↓evK_cmp, ↓evK_chn, ↓evK_idx, ↓evK_slc, ↓evK_rev, ↓evK_fld, ↓evK_call, ↓evK_calv, ↓evK_meth, ↓evK_new, ↓evK_leni, nonK_non, lenY_int, ↓evK_blt, ↓evK_bm, ↓evK_isi, ↓evK_enum, ↓evK_vals, ↓evK_lrng, ↓evK_lc, ↓evsK_nil, ↓evsK_cons, ↓evcK_nil, ↓evcK_cons, ↓rK_bind, ↓oK_rK, ↓oK_oK, ↓oK_optK, ↓oK_varK, ↓oK_blK, ↓oK_evK, ↓oK_evsK, tryO_nx, tryO_rt, tryO_exc, tryO_ite, rK_ok, rK_exc, rK_bad, rK_ite, oK_nx, oK_rt, oK_ct, oK_exc, oK_bad, oK_ite, optK_some, optK_none, optK_ite, optK_map, varK_some, blK_bl, negK_int, notK_bl, fnK_fn, enumS_vl, lrngS_int, idx_tup, idx_vl, idx_vd, idx_loc_lst, idx_loc_dct, idx_loc_fdct, idxT_int, sub_lst, aug_lst, augI_int, mkL_false, mkL_true, mkD_false, mkD_true, eqD_bl, eqD_non, eqD_flat, flat_non, flat_bl, flat_int, flat_str, flat_tup, flat_vl, flats_nil, flats_cons, flats_app, nb_non, nb_int, nb_str, nb_tup, nb_vl, nbs_nil, nbs_cons, noLoc_non, noLoc_bl, noLoc_int, noLoc_str, noLoc_tup, noLoc_vl, noLoc_vd, noLocs_nil, noLocs_cons, lit_le, le_lit, lit_lt, lt_lit, Es.len, ctK_nx, ctK_ct, ctK_rt, ctK_exc, ctK_bad, ctK_ite, ctK_rK, ctK_optK, ctK_blK, goK_nil, goK_cons, forK_tup, forK_vl, forK_vd, forK_str, bindT_one, bindT_two, wipeD_nil, wipeD_cons, unlock_tup, unlock_vl, unlock_vd, unlock_str, items_tup, items_vl, items_str, items_vd, all_vl, any_vl, tuple_vl, list_tup, list_vl, range_int, slc_tup, slc_vl, cutO_nil, cutO_int, isA_non, isA_bl, isA_int, isA_str, isA_tup, isA_vl, isA_vd, isOne_bl, len_tup, len_vl, len_vd, bin_sub, bin_add, cmp_lt, cmp_le, cmp_gt, cmp_ge, cmp_eq, cmp_ne, cmp_in, cmp_nin, cmp_is, cmp_isnt, start, h, bin_mod, eqv_nb, hb, dv, dt, atI, L2.ixN]
  have hl : 0 < ns.length := List.length_pos_iff.mpr hn
  have hl2 : (t.a : Int) % ns.length < ns.length := Int.emod_lt_of_pos _ (by omega)
  have hl3 : 0 ≤ (t.a : Int) % ns.length := Int.emod_nonneg _ (by omega)
  have hl4 : t.a % ns.length < ns.length := Nat.mod_lt _ hl
  have e3 : ((t.a : Int) % ns.length).toNat = t.a % ns.length := by omega
  have e4 : ∀ x : Int, ((x % m).toNat : Int) = x % m := fun x => Int.toNat_of_nonneg (Int.emod_nonneg _ (by omega))
  have e5 : ∀ x : Int, ((x % 1000000000000000000000000000000000000000000000000000000000000000000000000000000000000000000000000000000000000000000000000).toNat : Int) = x % 1000000000000000000000000000000000000000000000000000000000000000000000000000000000000000000000000000000000000000000000000 := fun x => Int.toNat_of_nonneg (Int.emod_nonneg _ (by decide))
  have m60 : mulOk 1000000000000000000000000000000000000000000000000000000000000 1000000000000000000000000000000000000000000000000000000000000 = true := by decide
  have m32 : ∀ x : Int, mulOk x 1103515245 = true := fun x => by simp [mulOk]
  have m13 : ∀ x : Int, mulOk 7919 x = true := fun x => by simp [mulOk]
  by_cases ha : t.a < ns.length
  · by_cases hx : 1000000000000000000 ≤ ns[t.a]
    · simp [↓callN_K, ↓exs_K, ↓exsK_nil, ↓exsK_cons, ↓exK_expr, ↓exK_asg, ↓exK_ret, ↓exK_ifs, ↓exK_raise, ↓exK_any, ↓exK_cont, ↓exK_pass, ↓exK_fors, ↓exK_whl, ↓exK_tryw, ↓exK_augN, ↓exK_augS, ↓exK_augF, ↓stK_name, ↓stK_names, ↓stK_star, starS_vl, ↓stK_sub, ↓stK_fld, ↓evK_var, ↓evK_cst, ↓evK_glb, ↓evK_tup, ↓evK_lst, ↓evK_dct, ↓evK_bin, ↓evK_neg, ↓evK_not, ↓evK_and, ↓evK_or, ↓evK_ite, ↓evK_cmp, ↓evK_chn, ↓evK_idx, ↓evK_slc, ↓evK_rev, ↓evK_fld, ↓evK_call, ↓evK_calv, ↓evK_meth, ↓evK_new, ↓evK_leni, nonK_non, lenY_int, ↓evK_blt, ↓evK_bm, ↓evK_isi, ↓evK_enum, ↓evK_vals, ↓evK_lrng, ↓evK_lc, ↓evsK_nil, ↓evsK_cons, ↓evcK_nil, ↓evcK_cons, ↓rK_bind, ↓oK_rK, ↓oK_oK, ↓oK_optK, ↓oK_varK, ↓oK_blK, ↓oK_evK, ↓oK_evsK, tryO_nx, tryO_rt, tryO_exc, tryO_ite, rK_ok, rK_exc, rK_bad, rK_ite, oK_nx, oK_rt, oK_ct, oK_exc, oK_bad, oK_ite, optK_some, optK_none, optK_ite, optK_map, varK_some, blK_bl, negK_int, notK_bl, fnK_fn, enumS_vl, lrngS_int, idx_tup, idx_vl, idx_vd, idx_loc_lst, idx_loc_dct, idx_loc_fdct, idxT_int, sub_lst, aug_lst, augI_int, mkL_false, mkL_true, mkD_false, mkD_true, eqD_bl, eqD_non, eqD_flat, flat_non, flat_bl, flat_int, flat_str, flat_tup, flat_vl, flats_nil, flats_cons, flats_app, nb_non, nb_int, nb_str, nb_tup, nb_vl, nbs_nil, nbs_cons, noLoc_non, noLoc_bl, noLoc_int, noLoc_str, noLoc_tup, noLoc_vl, noLoc_vd, noLocs_nil, noLocs_cons, lit_le, le_lit, lit_lt, lt_lit, Es.len, ctK_nx, ctK_ct, ctK_rt, ctK_exc, ctK_bad, ctK_ite, ctK_rK, ctK_optK, ctK_blK, goK_nil, goK_cons, forK_tup, forK_vl, forK_vd, forK_str, bindT_one, bindT_two, wipeD_nil, wipeD_cons, unlock_tup, unlock_vl, unlock_vd, unlock_str, items_tup, items_vl, items_str, items_vd, all_vl, any_vl, tuple_vl, list_tup, list_vl, range_int, slc_tup, slc_vl, cutO_nil, cutO_int, isA_non, isA_bl, isA_int, isA_str, isA_tup, isA_vl, isA_vd, isOne_bl, len_tup, len_vl, len_vd, bin_sub, bin_add, cmp_lt, cmp_le, cmp_gt, cmp_ge, cmp_eq, cmp_ne, cmp_in, cmp_nin, cmp_is, cmp_isnt, start, h, hm2, bin_mod, bin_fdiv, bin_pow, bin_mul, m60, m32, m13, p5, atI, L2.ixN, f1, f2, eqv_nb, hb, hn, ha, dv, dt, hx, e4, e5]
    · simp [↓callN_K, ↓exs_K, ↓exsK_nil, ↓exsK_cons, ↓exK_expr, ↓exK_asg, ↓exK_ret, ↓exK_ifs, ↓exK_raise, ↓exK_any, ↓exK_cont, ↓exK_pass, ↓exK_fors, ↓exK_whl, ↓exK_tryw, ↓exK_augN, ↓exK_augS, ↓exK_augF, ↓stK_name, ↓stK_names, ↓stK_star, starS_vl, ↓stK_sub, ↓stK_fld, ↓evK_var, ↓evK_cst, ↓evK_glb, ↓evK_tup, ↓evK_lst, ↓evK_dct, ↓evK_bin, ↓evK_neg, ↓evK_not, ↓evK_and, ↓evK_or, ↓evK_ite, ↓evK_cmp, ↓evK_chn, ↓evK_idx, ↓evK_slc, ↓evK_rev, ↓evK_fld, ↓evK_call, ↓evK_calv, ↓evK_meth, ↓evK_new, ↓evK_leni, nonK_non, lenY_int, ↓evK_blt, ↓evK_bm, ↓evK_isi, ↓evK_enum, ↓evK_vals, ↓evK_lrng, ↓evK_lc, ↓evsK_nil, ↓evsK_cons, ↓evcK_nil, ↓evcK_cons, ↓rK_bind, ↓oK_rK, ↓oK_oK, ↓oK_optK, ↓oK_varK, ↓oK_blK, ↓oK_evK, ↓oK_evsK, tryO_nx, tryO_rt, tryO_exc, tryO_ite, rK_ok, rK_exc, rK_bad, rK_ite, oK_nx, oK_rt, oK_ct, oK_exc, oK_bad, oK_ite, optK_some, optK_none, optK_ite, optK_map, varK_some, blK_bl, negK_int, notK_bl, fnK_fn, enumS_vl, lrngS_int, idx_tup, idx_vl, idx_vd, idx_loc_lst, idx_loc_dct, idx_loc_fdct, idxT_int, sub_lst, aug_lst, augI_int, mkL_false, mkL_true, mkD_false, mkD_true, eqD_bl, eqD_non, eqD_flat, flat_non, flat_bl, flat_int, flat_str, flat_tup, flat_vl, flats_nil, flats_cons, flats_app, nb_non, nb_int, nb_str, nb_tup, nb_vl, nbs_nil, nbs_cons, noLoc_non, noLoc_bl, noLoc_int, noLoc_str, noLoc_tup, noLoc_vl, noLoc_vd, noLocs_nil, noLocs_cons, lit_le, le_lit, lit_lt, lt_lit, Es.len, ctK_nx, ctK_ct, ctK_rt, ctK_exc, ctK_bad, ctK_ite, ctK_rK, ctK_optK, ctK_blK, goK_nil, goK_cons, forK_tup, forK_vl, forK_vd, forK_str, bindT_one, bindT_two, wipeD_nil, wipeD_cons, unlock_tup, unlock_vl, unlock_vd, unlock_str, items_tup, items_vl, items_str, items_vd, all_vl, any_vl, tuple_vl, list_tup, list_vl, range_int, slc_tup, slc_vl, cutO_nil, cutO_int, isA_non, isA_bl, isA_int, isA_str, isA_tup, isA_vl, isA_vd, isOne_bl, len_tup, len_vl, len_vd, bin_sub, bin_add, cmp_lt, cmp_le, cmp_gt, cmp_ge, cmp_eq, cmp_ne, cmp_in, cmp_nin, cmp_is, cmp_isnt, start, h, hm2, bin_mod, bin_fdiv, bin_pow, bin_mul, m60, m32, m13, p5, atI, L2.ixN, f1, f2, eqv_nb, hb, hn, ha, e3, hl, hl2, hl3, hl4, dv, dt, hx, e4, e5]
  · simp [↓callN_K, ↓exs_K, ↓exsK_nil, ↓exsK_cons, ↓exK_expr, ↓exK_asg, ↓exK_ret, ↓exK_ifs, ↓exK_raise, ↓exK_any, ↓exK_cont, ↓exK_pass, ↓exK_fors, ↓exK_whl, ↓exK_tryw, ↓exK_augN, ↓exK_augS, ↓exK_augF, ↓stK_name, ↓stK_names, ↓stK_star, starS_vl, ↓stK_sub, ↓stK_fld, ↓evK_var, ↓evK_cst, ↓evK_glb, ↓evK_tup, ↓evK_lst, ↓evK_dct, ↓evK_bin, ↓evK_neg, ↓evK_not, ↓evK_and, ↓evK_or, ↓evK_ite, ↓evK_cmp, ↓evK_chn, ↓evK_idx, ↓evK_slc, ↓evK_rev, ↓evK_fld, ↓evK_call, ↓evK_calv, ↓evK_meth, ↓evK_new, ↓evK_leni, nonK_non, lenY_int, ↓evK_blt, ↓evK_bm, ↓evK_isi, ↓evK_enum, ↓evK_vals, ↓evK_lrng, ↓evK_lc, ↓evsK_nil, ↓evsK_cons, ↓evcK_nil, ↓evcK_cons, ↓rK_bind, ↓oK_rK, ↓oK_oK, ↓oK_optK, ↓oK_varK, ↓oK_blK, ↓oK_evK, ↓oK_evsK, tryO_nx, tryO_rt, tryO_exc, tryO_ite, rK_ok, rK_exc, rK_bad, rK_ite, oK_nx, oK_rt, oK_ct, oK_exc, oK_bad, oK_ite, optK_some, optK_none, optK_ite, optK_map, varK_some, blK_bl, negK_int, notK_bl, fnK_fn, enumS_vl, lrngS_int, idx_tup, idx_vl, idx_vd, idx_loc_lst, idx_loc_dct, idx_loc_fdct, idxT_int, sub_lst, aug_lst, augI_int, mkL_false, mkL_true, mkD_false, mkD_true, eqD_bl, eqD_non, eqD_flat, flat_non, flat_bl, flat_int, flat_str, flat_tup, flat_vl, flats_nil, flats_cons, flats_app, nb_non, nb_int, nb_str, nb_tup, nb_vl, nbs_nil, nbs_cons, noLoc_non, noLoc_bl, noLoc_int, noLoc_str, noLoc_tup, noLoc_vl, noLoc_vd, noLocs_nil, noLocs_cons, lit_le, le_lit, lit_lt, lt_lit, Es.len, ctK_nx, ctK_ct, ctK_rt, ctK_exc, ctK_bad, ctK_ite, ctK_rK, ctK_optK, ctK_blK, goK_nil, goK_cons, forK_tup, forK_vl, forK_vd, forK_str, bindT_one, bindT_two, wipeD_nil, wipeD_cons, unlock_tup, unlock_vl, unlock_vd, unlock_str, items_tup, items_vl, items_str, items_vd, all_vl, any_vl, tuple_vl, list_tup, list_vl, range_int, slc_tup, slc_vl, cutO_nil, cutO_int, isA_non, isA_bl, isA_int, isA_str, isA_tup, isA_vl, isA_vd, isOne_bl, len_tup, len_vl, len_vd, bin_sub, bin_add, cmp_lt, cmp_le, cmp_gt, cmp_ge, cmp_eq, cmp_ne, cmp_in, cmp_nin, cmp_is, cmp_isnt, start, h, hm2, bin_mod, bin_fdiv, bin_pow, bin_mul, m60, m32, m13, p5, atI, L2.ixN, f1, f2, eqv_nb, hb, hn, ha, e3, hl, hl2, hl3, hl4, dv, dt, e4, e5]
theorem dv_lt {ns : List Int} {t : Town} {m : Nat} (h : 0 < m) : dv ns t m < m := by
  have k : ∀ x : Int, (x % m).toNat < m := fun x => by
    have := Int.emod_lt_of_pos x (show (0 : Int) < m by omega)
    have := Int.emod_nonneg x (show (m : Int) ≠ 0 by omega)
    omega
  unfold dv
  split
  · exact Nat.mod_lt _ h
  · split
    · exact Nat.mod_lt _ h
    · split <;> exact k _
theorem tw_noLoc (t : Town) : (tw t).noLoc = true := by simp [tw, Ob.noLoc, noLocs, noLoc]
theorem c_draw (n : Nat) (fz : Bool) (ns : List Int) (t : Town) (m : Nat) (r : Sto) (h : 0 < m) (h2 : m < 1073741824) :
    callF (callN P (n + 1)) fz f_law_draw [.vl (ns.map D.int), .loc 0, .int m] (tw t :: r) = .ok (.int (dv ns t m)) (tw (dt ns t m) :: r) := by
  rw [callF_rt rfl (draw_raw n ns t m r h h2)]
  exact fin_val0 (kept_cons (tw_noLoc _) (kept_refl r)) rfl (by rw [noLoc] <;> simp)
theorem noLocs_get : ∀ {xs : List D} (h : noLocs xs = true) (i : Nat), noLoc (xs.getD i .non) = true
  | [], _, i => by simp [noLoc]
  | x :: xs, h, 0 => by
    simp only [noLocs_cons, Bool.and_eq_true] at h
    simpa using h.1
  | x :: xs, h, i + 1 => by
    simp only [noLocs_cons, Bool.and_eq_true] at h
    simpa using noLocs_get h.2 i
theorem pick_raw (n : Nat) (ns : List Int) (t : Town) (xs : List D) (r : Sto) (h : 0 < xs.length) (h2 : xs.length < 1073741824) :
    callN P (n + 2) f_law_pick [.vl (ns.map D.int), .loc 0, .vl xs] (tw t :: r) = .rt (xs.getD (dv ns t xs.length) .non) (tw (dt ns t xs.length) :: r) := by
  have h3 := dv_lt (ns := ns) (t := t) h
  unfold f_law_pick
  simp [↓callN_K, ↓exs_K, ↓exsK_nil, ↓exsK_cons, ↓exK_expr, ↓exK_asg, ↓exK_ret, ↓exK_ifs, ↓exK_raise, ↓exK_any, ↓exK_cont, ↓exK_pass, ↓exK_fors, ↓exK_whl, ↓exK_tryw, ↓exK_augN, ↓exK_augS, ↓exK_augF, ↓stK_name, ↓stK_names, ↓stK_star, starS_vl, ↓stK_sub, ↓stK_fld, ↓evK_var, ↓evK_cst, ↓evK_glb, ↓evK_tup, ↓evK_lst, ↓evK_dct, ↓evK_bin, ↓evK_neg, ↓evK_not, ↓evK_and, ↓evK_or, ↓evK_ite, ↓evK_cmp, ↓evK_chn, ↓evK_idx, ↓evK_slc, ↓evK_rev, ↓evK_fld, ↓evK_call, ↓evK_calv, ↓evK_meth, ↓evK_new, ↓evK_leni, nonK_non, lenY_int, ↓evK_blt, ↓evK_bm, ↓evK_isi, ↓evK_enum, ↓evK_vals, ↓evK_lrng, ↓evK_lc, ↓evsK_nil, ↓evsK_cons, ↓evcK_nil, ↓evcK_cons, ↓rK_bind, ↓oK_rK, ↓oK_oK, ↓oK_optK, ↓oK_varK, ↓oK_blK, ↓oK_evK, ↓oK_evsK, tryO_nx, tryO_rt, tryO_exc, tryO_ite, rK_ok, rK_exc, rK_bad, rK_ite, oK_nx, oK_rt, oK_ct, oK_exc, oK_bad, oK_ite, optK_some, optK_none, optK_ite, optK_map, varK_some, blK_bl, negK_int, notK_bl, fnK_fn, enumS_vl, lrngS_int, idx_tup, idx_vl, idx_vd, idx_loc_lst, idx_loc_dct, idx_loc_fdct, idxT_int, sub_lst, aug_lst, augI_int, mkL_false, mkL_true, mkD_false, mkD_true, eqD_bl, eqD_non, eqD_flat, flat_non, flat_bl, flat_int, flat_str, flat_tup, flat_vl, flats_nil, flats_cons, flats_app, nb_non, nb_int, nb_str, nb_tup, nb_vl, nbs_nil, nbs_cons, noLoc_non, noLoc_bl, noLoc_int, noLoc_str, noLoc_tup, noLoc_vl, noLoc_vd, noLocs_nil, noLocs_cons, lit_le, le_lit, lit_lt, lt_lit, Es.len, ctK_nx, ctK_ct, ctK_rt, ctK_exc, ctK_bad, ctK_ite, ctK_rK, ctK_optK, ctK_blK, goK_nil, goK_cons, forK_tup, forK_vl, forK_vd, forK_str, bindT_one, bindT_two, wipeD_nil, wipeD_cons, unlock_tup, unlock_vl, unlock_vd, unlock_str, items_tup, items_vl, items_str, items_vd, all_vl, any_vl, tuple_vl, list_tup, list_vl, range_int, slc_tup, slc_vl, cutO_nil, cutO_int, isA_non, isA_bl, isA_int, isA_str, isA_tup, isA_vl, isA_vd, isOne_bl, len_tup, len_vl, len_vd, bin_sub, bin_add, cmp_lt, cmp_le, cmp_gt, cmp_ge, cmp_eq, cmp_ne, cmp_in, cmp_nin, cmp_is, cmp_isnt, gl_whi, gl_exc_NoPath, gl_exc_NoText, gl_exc_NoTree, gl_exc_Root, gl_exc_NotThere, gl_exc_NoDrawer, gl_exc_IsDrawer, gl_exc_Taken, gl_exc_NotEmpty, gl_exc_Within, gl_exc_TooLong, gl_exc_Full, ar_wall, ar_is_whole, ar_is_name, ar_is_path, ar_is_text, ar_need_path, ar_need_text, ar_lies_within, ar_is_file, ar_one_text, ar_is_tree, ar_need_tree, ar_numbered, ar_names_at, ar_same_file, ar_part_of, ar_need_not_root, ar_need_there, ar_need_place, ar_need_free, ar_need_file, ar_need_room, ar_check_make, ar_check_write, ar_check_read, ar_check_add, ar_check_remove, ar_check_clear, ar_check_move, ar_check_tie, ar_check_list, ar_law_draw, ar_law_pick, ar_law_letter, ar_law_text, ar_law_tree, ar_law_no_path, ar_law_no_tree, ar_law_path, ar_law_chosen, ar_law_do, ar_law_made, ar_law_view, ar_law, gl_LETTERS, gl_MOST, gl_DRAWER, start, c_draw, h, h2, h3]
theorem c_pick (n : Nat) (fz : Bool) (ns : List Int) (t : Town) (xs : List D) (r : Sto) (h : 0 < xs.length) (h2 : xs.length < 1073741824) (hn : noLocs xs = true) :
    callF (callN P (n + 2)) fz f_law_pick [.vl (ns.map D.int), .loc 0, .vl xs] (tw t :: r) = .ok (pkD xs (dv ns t xs.length)) (tw (dt ns t xs.length) :: r) := by
  rw [callF_rt rfl (pick_raw n ns t xs r h h2)]
  exact fin_val0 (kept_cons (tw_noLoc _) (kept_refl r)) rfl (noLocs_get hn _)
/-! Cut: a block in parts. -/
def ctake : Nat → Cs → Cs
  | 0, _ => .nil
  | _ + 1, .nil => .nil
  | n + 1, .cons c r => .cons c (ctake n r)
def cdrop : Nat → Cs → Cs
  | 0, c => c
  | _ + 1, .nil => .nil
  | n + 1, .cons _ r => cdrop n r
theorem exs_split {call : Fun → List D → Sto → O} : ∀ (n : Nat) (c : Cs) (σ : Slots) (S : Sto), exs P call c σ S = oK (exs P call (ctake n c) σ S) fun σ S => exs P call (cdrop n c) σ S
  | 0, c, σ, S => by rw [ctake, cdrop, exs_nil]; rfl
  | n + 1, .nil, σ, S => by rw [ctake, cdrop, exs_nil]; rfl
  | n + 1, .cons c r, σ, S => by
    rw [ctake, cdrop, exs_cons, exs_cons, oK_oK]
    congr 1; funext σ S
    exact exs_split n r σ S
def isT : O → Bool
  | .rt (.bl true) _ => true
  | _ => false
theorem isT_end {o : O} (h : isT o = true) : ∃ S, o = .rt (.bl true) S := by
  unfold isT at h
  split at h
  · exact ⟨_, rfl⟩
  · cases h
/-! Paths: paths.py. -/
def letters : Str := Str.ofString "abcdefghijklmnopqrstuvwxyz"
def letC (c : Nat) : Bool := decide (c ∈ letters.cps.toList)
theorem occurs_one (c : Nat) (y : Str) : occurs ⟨#[c]⟩ y = decide (c ∈ y.cps.toList) := by
  unfold occurs
  exact PySem.StrLaws.found_one y c
theorem in_let (S : Sto) (c : Nat) : inD S (.str ⟨#[c]⟩) (.str (Str.ofString "abcdefghijklmnopqrstuvwxyz")) = some (letC c) := by
  show some (occurs _ _) = _
  rw [occurs_one]; rfl
/-- what a test of kind may be handed -/
def small : D → Bool
  | .str x => decide (x.length ≤ 100000)
  | .fn _ => false
  | .loc _ => false
  | _ => true
def nameS (x : Str) : Bool := decide (1 ≤ x.length) && (decide (x.length ≤ 4) && x.cps.toList.all letC)
def isNameD : D → Bool
  | .str x => nameS x
  | _ => false
theorem is_name_raw (n : Nat) (d : D) (S : Sto) (h : small d = true) : callN P (n + 1) f_is_name [d] S = .rt (.bl (isNameD d)) S := by
  unfold f_is_name
  cases d with
  | str x =>
    have h : x.length ≤ 100000 := by simpa [small] using h
    simp [↓callN_K, ↓exs_K, ↓exsK_nil, ↓exsK_cons, ↓exK_expr, ↓exK_asg, ↓exK_ret, ↓exK_ifs, ↓exK_raise, ↓exK_any, ↓exK_cont, ↓exK_pass, ↓exK_fors, ↓exK_whl, ↓exK_tryw, ↓exK_augN, ↓exK_augS, ↓exK_augF, ↓stK_name, ↓stK_names, ↓stK_star, starS_vl, ↓stK_sub, ↓stK_fld, ↓evK_var, ↓evK_cst, ↓evK_glb, ↓evK_tup, ↓evK_lst, ↓evK_dct, ↓evK_bin, ↓evK_neg, ↓evK_not, ↓evK_and, ↓evK_or, ↓evK_ite, ↓evK_cmp, ↓evK_chn, ↓evK_idx, ↓evK_slc, ↓evK_rev, ↓evK_fld, ↓evK_call, ↓evK_calv, ↓evK_meth, ↓evK_new, ↓evK_leni, nonK_non, lenY_int, ↓evK_blt, ↓evK_bm, ↓evK_isi, ↓evK_enum, ↓evK_vals, ↓evK_lrng, ↓evK_lc, ↓evsK_nil, ↓evsK_cons, ↓evcK_nil, ↓evcK_cons, ↓rK_bind, ↓oK_rK, ↓oK_oK, ↓oK_optK, ↓oK_varK, ↓oK_blK, ↓oK_evK, ↓oK_evsK, tryO_nx, tryO_rt, tryO_exc, tryO_ite, rK_ok, rK_exc, rK_bad, rK_ite, oK_nx, oK_rt, oK_ct, oK_exc, oK_bad, oK_ite, optK_some, optK_none, optK_ite, optK_map, varK_some, blK_bl, negK_int, notK_bl, fnK_fn, enumS_vl, lrngS_int, idx_tup, idx_vl, idx_vd, idx_loc_lst, idx_loc_dct, idx_loc_fdct, idxT_int, sub_lst, aug_lst, augI_int, mkL_false, mkL_true, mkD_false, mkD_true, eqD_bl, eqD_non, eqD_flat, flat_non, flat_bl, flat_int, flat_str, flat_tup, flat_vl, flats_nil, flats_cons, flats_app, nb_non, nb_int, nb_str, nb_tup, nb_vl, nbs_nil, nbs_cons, noLoc_non, noLoc_bl, noLoc_int, noLoc_str, noLoc_tup, noLoc_vl, noLoc_vd, noLocs_nil, noLocs_cons, lit_le, le_lit, lit_lt, lt_lit, Es.len, ctK_nx, ctK_ct, ctK_rt, ctK_exc, ctK_bad, ctK_ite, ctK_rK, ctK_optK, ctK_blK, goK_nil, goK_cons, forK_tup, forK_vl, forK_vd, forK_str, bindT_one, bindT_two, wipeD_nil, wipeD_cons, unlock_tup, unlock_vl, unlock_vd, unlock_str, items_tup, items_vl, items_str, items_vd, all_vl, any_vl, tuple_vl, list_tup, list_vl, range_int, slc_tup, slc_vl, cutO_nil, cutO_int, isA_non, isA_bl, isA_int, isA_str, isA_tup, isA_vl, isA_vd, isOne_bl, len_tup, len_vl, len_vd, bin_sub, bin_add, cmp_lt, cmp_le, cmp_gt, cmp_ge, cmp_eq, cmp_ne, cmp_in, cmp_nin, cmp_is, cmp_isnt, gl_whi, gl_exc_NoPath, gl_exc_NoText, gl_exc_NoTree, gl_exc_Root, gl_exc_NotThere, gl_exc_NoDrawer, gl_exc_IsDrawer, gl_exc_Taken, gl_exc_NotEmpty, gl_exc_Within, gl_exc_TooLong, gl_exc_Full, ar_wall, ar_is_whole, ar_is_name, ar_is_path, ar_is_text, ar_need_path, ar_need_text, ar_lies_within, ar_is_file, ar_one_text, ar_is_tree, ar_need_tree, ar_numbered, ar_names_at, ar_same_file, ar_part_of, ar_need_not_root, ar_need_there, ar_need_place, ar_need_free, ar_need_file, ar_need_room, ar_check_make, ar_check_write, ar_check_read, ar_check_add, ar_check_remove, ar_check_clear, ar_check_move, ar_check_tie, ar_check_list, ar_law_draw, ar_law_pick, ar_law_letter, ar_law_text, ar_law_tree, ar_law_no_path, ar_law_no_tree, ar_law_path, ar_law_chosen, ar_law_do, ar_law_made, ar_law_view, ar_law, gl_LETTERS, gl_MOST, gl_DRAWER, start, len_str, h]
    by_cases h1 : 1 ≤ x.length
    · by_cases h2 : x.length ≤ 4
      · rw [if_pos h1, if_pos h2, lc_enc (g := fun c => .bl (letC c)) rfl (by rw [str_len]; omega) fun c hc => R_of_K fun k => by simp [lcT_K, ↓callN_K, ↓exs_K, ↓exsK_nil, ↓exsK_cons, ↓exK_expr, ↓exK_asg, ↓exK_ret, ↓exK_ifs, ↓exK_raise, ↓exK_any, ↓exK_cont, ↓exK_pass, ↓exK_fors, ↓exK_whl, ↓exK_tryw, ↓exK_augN, ↓exK_augS, ↓exK_augF, ↓stK_name, ↓stK_names, ↓stK_star, starS_vl, ↓stK_sub, ↓stK_fld, ↓evK_var, ↓evK_cst, ↓evK_glb, ↓evK_tup, ↓evK_lst, ↓evK_dct, ↓evK_bin, ↓evK_neg, ↓evK_not, ↓evK_and, ↓evK_or, ↓evK_ite, ↓evK_cmp, ↓evK_chn, ↓evK_idx, ↓evK_slc, ↓evK_rev, ↓evK_fld, ↓evK_call, ↓evK_calv, ↓evK_meth, ↓evK_new, ↓evK_leni, nonK_non, lenY_int, ↓evK_blt, ↓evK_bm, ↓evK_isi, ↓evK_enum, ↓evK_vals, ↓evK_lrng, ↓evK_lc, ↓evsK_nil, ↓evsK_cons, ↓evcK_nil, ↓evcK_cons, ↓rK_bind, ↓oK_rK, ↓oK_oK, ↓oK_optK, ↓oK_varK, ↓oK_blK, ↓oK_evK, ↓oK_evsK, tryO_nx, tryO_rt, tryO_exc, tryO_ite, rK_ok, rK_exc, rK_bad, rK_ite, oK_nx, oK_rt, oK_ct, oK_exc, oK_bad, oK_ite, optK_some, optK_none, optK_ite, optK_map, varK_some, blK_bl, negK_int, notK_bl, fnK_fn, enumS_vl, lrngS_int, idx_tup, idx_vl, idx_vd, idx_loc_lst, idx_loc_dct, idx_loc_fdct, idxT_int, sub_lst, aug_lst, augI_int, mkL_false, mkL_true, mkD_false, mkD_true, eqD_bl, eqD_non, eqD_flat, flat_non, flat_bl, flat_int, flat_str, flat_tup, flat_vl, flats_nil, flats_cons, flats_app, nb_non, nb_int, nb_str, nb_tup, nb_vl, nbs_nil, nbs_cons, noLoc_non, noLoc_bl, noLoc_int, noLoc_str, noLoc_tup, noLoc_vl, noLoc_vd, noLocs_nil, noLocs_cons, lit_le, le_lit, lit_lt, lt_lit, Es.len, ctK_nx, ctK_ct, ctK_rt, ctK_exc, ctK_bad, ctK_ite, ctK_rK, ctK_optK, ctK_blK, goK_nil, goK_cons, forK_tup, forK_vl, forK_vd, forK_str, bindT_one, bindT_two, wipeD_nil, wipeD_cons, unlock_tup, unlock_vl, unlock_vd, unlock_str, items_tup, items_vl, items_str, items_vd, all_vl, any_vl, tuple_vl, list_tup, list_vl, range_int, slc_tup, slc_vl, cutO_nil, cutO_int, isA_non, isA_bl, isA_int, isA_str, isA_tup, isA_vl, isA_vd, isOne_bl, len_tup, len_vl, len_vd, bin_sub, bin_add, cmp_lt, cmp_le, cmp_gt, cmp_ge, cmp_eq, cmp_ne, cmp_in, cmp_nin, cmp_is, cmp_isnt, gl_whi, gl_exc_NoPath, gl_exc_NoText, gl_exc_NoTree, gl_exc_Root, gl_exc_NotThere, gl_exc_NoDrawer, gl_exc_IsDrawer, gl_exc_Taken, gl_exc_NotEmpty, gl_exc_Within, gl_exc_TooLong, gl_exc_Full, ar_wall, ar_is_whole, ar_is_name, ar_is_path, ar_is_text, ar_need_path, ar_need_text, ar_lies_within, ar_is_file, ar_one_text, ar_is_tree, ar_need_tree, ar_numbered, ar_names_at, ar_same_file, ar_part_of, ar_need_not_root, ar_need_there, ar_need_place, ar_need_free, ar_need_file, ar_need_room, ar_check_make, ar_check_write, ar_check_read, ar_check_add, ar_check_remove, ar_check_clear, ar_check_move, ar_check_tie, ar_check_list, ar_law_draw, ar_law_pick, ar_law_letter, ar_law_text, ar_law_tree, ar_law_no_path, ar_law_no_tree, ar_law_path, ar_law_chosen, ar_law_do, ar_law_made, ar_law_view, ar_law, gl_LETTERS, gl_MOST, gl_DRAWER, in_let, bindT, wipeD]]
        simp [isNameD, nameS, h1, h2, ↓callN_K, ↓exs_K, ↓exsK_nil, ↓exsK_cons, ↓exK_expr, ↓exK_asg, ↓exK_ret, ↓exK_ifs, ↓exK_raise, ↓exK_any, ↓exK_cont, ↓exK_pass, ↓exK_fors, ↓exK_whl, ↓exK_tryw, ↓exK_augN, ↓exK_augS, ↓exK_augF, ↓stK_name, ↓stK_names, ↓stK_star, starS_vl, ↓stK_sub, ↓stK_fld, ↓evK_var, ↓evK_cst, ↓evK_glb, ↓evK_tup, ↓evK_lst, ↓evK_dct, ↓evK_bin, ↓evK_neg, ↓evK_not, ↓evK_and, ↓evK_or, ↓evK_ite, ↓evK_cmp, ↓evK_chn, ↓evK_idx, ↓evK_slc, ↓evK_rev, ↓evK_fld, ↓evK_call, ↓evK_calv, ↓evK_meth, ↓evK_new, ↓evK_leni, nonK_non, lenY_int, ↓evK_blt, ↓evK_bm, ↓evK_isi, ↓evK_enum, ↓evK_vals, ↓evK_lrng, ↓evK_lc, ↓evsK_nil, ↓evsK_cons, ↓evcK_nil, ↓evcK_cons, ↓rK_bind, ↓oK_rK, ↓oK_oK, ↓oK_optK, ↓oK_varK, ↓oK_blK, ↓oK_evK, ↓oK_evsK, tryO_nx, tryO_rt, tryO_exc, tryO_ite, rK_ok, rK_exc, rK_bad, rK_ite, oK_nx, oK_rt, oK_ct, oK_exc, oK_bad, oK_ite, optK_some, optK_none, optK_ite, optK_map, varK_some, blK_bl, negK_int, notK_bl, fnK_fn, enumS_vl, lrngS_int, idx_tup, idx_vl, idx_vd, idx_loc_lst, idx_loc_dct, idx_loc_fdct, idxT_int, sub_lst, aug_lst, augI_int, mkL_false, mkL_true, mkD_false, mkD_true, eqD_bl, eqD_non, eqD_flat, flat_non, flat_bl, flat_int, flat_str, flat_tup, flat_vl, flats_nil, flats_cons, flats_app, nb_non, nb_int, nb_str, nb_tup, nb_vl, nbs_nil, nbs_cons, noLoc_non, noLoc_bl, noLoc_int, noLoc_str, noLoc_tup, noLoc_vl, noLoc_vd, noLocs_nil, noLocs_cons, lit_le, le_lit, lit_lt, lt_lit, Es.len, ctK_nx, ctK_ct, ctK_rt, ctK_exc, ctK_bad, ctK_ite, ctK_rK, ctK_optK, ctK_blK, goK_nil, goK_cons, forK_tup, forK_vl, forK_vd, forK_str, bindT_one, bindT_two, wipeD_nil, wipeD_cons, unlock_tup, unlock_vl, unlock_vd, unlock_str, items_tup, items_vl, items_str, items_vd, all_vl, any_vl, tuple_vl, list_tup, list_vl, range_int, slc_tup, slc_vl, cutO_nil, cutO_int, isA_non, isA_bl, isA_int, isA_str, isA_tup, isA_vl, isA_vd, isOne_bl, len_tup, len_vl, len_vd, bin_sub, bin_add, cmp_lt, cmp_le, cmp_gt, cmp_ge, cmp_eq, cmp_ne, cmp_in, cmp_nin, cmp_is, cmp_isnt, allB_map]
      · simp [isNameD, nameS, h1, h2]
    · simp [isNameD, nameS, h1]
  | fn f => simp [small] at h
  | loc l => simp [small] at h
  | _ => simp [↓callN_K, ↓exs_K, ↓exsK_nil, ↓exsK_cons, ↓exK_expr, ↓exK_asg, ↓exK_ret, ↓exK_ifs, ↓exK_raise, ↓exK_any, ↓exK_cont, ↓exK_pass, ↓exK_fors, ↓exK_whl, ↓exK_tryw, ↓exK_augN, ↓exK_augS, ↓exK_augF, ↓stK_name, ↓stK_names, ↓stK_star, starS_vl, ↓stK_sub, ↓stK_fld, ↓evK_var, ↓evK_cst, ↓evK_glb, ↓evK_tup, ↓evK_lst, ↓evK_dct, ↓evK_bin, ↓evK_neg, ↓evK_not, ↓evK_and, ↓evK_or, ↓evK_ite, ↓evK_cmp, ↓evK_chn, ↓evK_idx, ↓evK_slc, ↓evK_rev, ↓evK_fld, ↓evK_call, ↓evK_calv, ↓evK_meth, ↓evK_new, ↓evK_leni, nonK_non, lenY_int, ↓evK_blt, ↓evK_bm, ↓evK_isi, ↓evK_enum, ↓evK_vals, ↓evK_lrng, ↓evK_lc, ↓evsK_nil, ↓evsK_cons, ↓evcK_nil, ↓evcK_cons, ↓rK_bind, ↓oK_rK, ↓oK_oK, ↓oK_optK, ↓oK_varK, ↓oK_blK, ↓oK_evK, ↓oK_evsK, tryO_nx, tryO_rt, tryO_exc, tryO_ite, rK_ok, rK_exc, rK_bad, rK_ite, oK_nx, oK_rt, oK_ct, oK_exc, oK_bad, oK_ite, optK_some, optK_none, optK_ite, optK_map, varK_some, blK_bl, negK_int, notK_bl, fnK_fn, enumS_vl, lrngS_int, idx_tup, idx_vl, idx_vd, idx_loc_lst, idx_loc_dct, idx_loc_fdct, idxT_int, sub_lst, aug_lst, augI_int, mkL_false, mkL_true, mkD_false, mkD_true, eqD_bl, eqD_non, eqD_flat, flat_non, flat_bl, flat_int, flat_str, flat_tup, flat_vl, flats_nil, flats_cons, flats_app, nb_non, nb_int, nb_str, nb_tup, nb_vl, nbs_nil, nbs_cons, noLoc_non, noLoc_bl, noLoc_int, noLoc_str, noLoc_tup, noLoc_vl, noLoc_vd, noLocs_nil, noLocs_cons, lit_le, le_lit, lit_lt, lt_lit, Es.len, ctK_nx, ctK_ct, ctK_rt, ctK_exc, ctK_bad, ctK_ite, ctK_rK, ctK_optK, ctK_blK, goK_nil, goK_cons, forK_tup, forK_vl, forK_vd, forK_str, bindT_one, bindT_two, wipeD_nil, wipeD_cons, unlock_tup, unlock_vl, unlock_vd, unlock_str, items_tup, items_vl, items_str, items_vd, all_vl, any_vl, tuple_vl, list_tup, list_vl, range_int, slc_tup, slc_vl, cutO_nil, cutO_int, isA_non, isA_bl, isA_int, isA_str, isA_tup, isA_vl, isA_vd, isOne_bl, len_tup, len_vl, len_vd, bin_sub, bin_add, cmp_lt, cmp_le, cmp_gt, cmp_ge, cmp_eq, cmp_ne, cmp_in, cmp_nin, cmp_is, cmp_isnt, start, isNameD]
theorem c_is_name (n : Nat) (fz : Bool) (d : D) (S : Sto) (h : small d = true) : callF (callN P (n + 1)) fz f_is_name [d] S = .ok (.bl (isNameD d)) S := callF_pure rfl (is_name_raw n d S h) rfl
def isPathD : D → Bool
  | .tup xs => decide (xs.length ≤ 5) && xs.all isNameD
  | _ => false
/-- what is_path may be handed -/
def smallP : D → Bool
  | .tup xs => xs.all small
  | .fn _ => false
  | .loc _ => false
  | _ => true
theorem is_path_raw (n : Nat) (d : D) (S : Sto) (h : smallP d = true) : callN P (n + 2) f_is_path [d] S = .rt (.bl (isPathD d)) S := by
  unfold f_is_path
  cases d with
  | tup xs =>
    have h : ∀ x ∈ xs, small x = true := by simpa [smallP] using h
    simp [↓callN_K, ↓exs_K, ↓exsK_nil, ↓exsK_cons, ↓exK_expr, ↓exK_asg, ↓exK_ret, ↓exK_ifs, ↓exK_raise, ↓exK_any, ↓exK_cont, ↓exK_pass, ↓exK_fors, ↓exK_whl, ↓exK_tryw, ↓exK_augN, ↓exK_augS, ↓exK_augF, ↓stK_name, ↓stK_names, ↓stK_star, starS_vl, ↓stK_sub, ↓stK_fld, ↓evK_var, ↓evK_cst, ↓evK_glb, ↓evK_tup, ↓evK_lst, ↓evK_dct, ↓evK_bin, ↓evK_neg, ↓evK_not, ↓evK_and, ↓evK_or, ↓evK_ite, ↓evK_cmp, ↓evK_chn, ↓evK_idx, ↓evK_slc, ↓evK_rev, ↓evK_fld, ↓evK_call, ↓evK_calv, ↓evK_meth, ↓evK_new, ↓evK_leni, nonK_non, lenY_int, ↓evK_blt, ↓evK_bm, ↓evK_isi, ↓evK_enum, ↓evK_vals, ↓evK_lrng, ↓evK_lc, ↓evsK_nil, ↓evsK_cons, ↓evcK_nil, ↓evcK_cons, ↓rK_bind, ↓oK_rK, ↓oK_oK, ↓oK_optK, ↓oK_varK, ↓oK_blK, ↓oK_evK, ↓oK_evsK, tryO_nx, tryO_rt, tryO_exc, tryO_ite, rK_ok, rK_exc, rK_bad, rK_ite, oK_nx, oK_rt, oK_ct, oK_exc, oK_bad, oK_ite, optK_some, optK_none, optK_ite, optK_map, varK_some, blK_bl, negK_int, notK_bl, fnK_fn, enumS_vl, lrngS_int, idx_tup, idx_vl, idx_vd, idx_loc_lst, idx_loc_dct, idx_loc_fdct, idxT_int, sub_lst, aug_lst, augI_int, mkL_false, mkL_true, mkD_false, mkD_true, eqD_bl, eqD_non, eqD_flat, flat_non, flat_bl, flat_int, flat_str, flat_tup, flat_vl, flats_nil, flats_cons, flats_app, nb_non, nb_int, nb_str, nb_tup, nb_vl, nbs_nil, nbs_cons, noLoc_non, noLoc_bl, noLoc_int, noLoc_str, noLoc_tup, noLoc_vl, noLoc_vd, noLocs_nil, noLocs_cons, lit_le, le_lit, lit_lt, lt_lit, Es.len, ctK_nx, ctK_ct, ctK_rt, ctK_exc, ctK_bad, ctK_ite, ctK_rK, ctK_optK, ctK_blK, goK_nil, goK_cons, forK_tup, forK_vl, forK_vd, forK_str, bindT_one, bindT_two, wipeD_nil, wipeD_cons, unlock_tup, unlock_vl, unlock_vd, unlock_str, items_tup, items_vl, items_str, items_vd, all_vl, any_vl, tuple_vl, list_tup, list_vl, range_int, slc_tup, slc_vl, cutO_nil, cutO_int, isA_non, isA_bl, isA_int, isA_str, isA_tup, isA_vl, isA_vd, isOne_bl, len_tup, len_vl, len_vd, bin_sub, bin_add, cmp_lt, cmp_le, cmp_gt, cmp_ge, cmp_eq, cmp_ne, cmp_in, cmp_nin, cmp_is, cmp_isnt, gl_whi, gl_exc_NoPath, gl_exc_NoText, gl_exc_NoTree, gl_exc_Root, gl_exc_NotThere, gl_exc_NoDrawer, gl_exc_IsDrawer, gl_exc_Taken, gl_exc_NotEmpty, gl_exc_Within, gl_exc_TooLong, gl_exc_Full, ar_wall, ar_is_whole, ar_is_name, ar_is_path, ar_is_text, ar_need_path, ar_need_text, ar_lies_within, ar_is_file, ar_one_text, ar_is_tree, ar_need_tree, ar_numbered, ar_names_at, ar_same_file, ar_part_of, ar_need_not_root, ar_need_there, ar_need_place, ar_need_free, ar_need_file, ar_need_room, ar_check_make, ar_check_write, ar_check_read, ar_check_add, ar_check_remove, ar_check_clear, ar_check_move, ar_check_tie, ar_check_list, ar_law_draw, ar_law_pick, ar_law_letter, ar_law_text, ar_law_tree, ar_law_no_path, ar_law_no_tree, ar_law_path, ar_law_chosen, ar_law_do, ar_law_made, ar_law_view, ar_law, gl_LETTERS, gl_MOST, gl_DRAWER, start]
    by_cases h1 : xs.length ≤ 5
    · rw [if_pos h1, lc_map (g := fun x => .bl (isNameD x)) rfl (by omega) fun c hc => R_of_K fun k => by simp [lcT_K, ↓callN_K, ↓exs_K, ↓exsK_nil, ↓exsK_cons, ↓exK_expr, ↓exK_asg, ↓exK_ret, ↓exK_ifs, ↓exK_raise, ↓exK_any, ↓exK_cont, ↓exK_pass, ↓exK_fors, ↓exK_whl, ↓exK_tryw, ↓exK_augN, ↓exK_augS, ↓exK_augF, ↓stK_name, ↓stK_names, ↓stK_star, starS_vl, ↓stK_sub, ↓stK_fld, ↓evK_var, ↓evK_cst, ↓evK_glb, ↓evK_tup, ↓evK_lst, ↓evK_dct, ↓evK_bin, ↓evK_neg, ↓evK_not, ↓evK_and, ↓evK_or, ↓evK_ite, ↓evK_cmp, ↓evK_chn, ↓evK_idx, ↓evK_slc, ↓evK_rev, ↓evK_fld, ↓evK_call, ↓evK_calv, ↓evK_meth, ↓evK_new, ↓evK_leni, nonK_non, lenY_int, ↓evK_blt, ↓evK_bm, ↓evK_isi, ↓evK_enum, ↓evK_vals, ↓evK_lrng, ↓evK_lc, ↓evsK_nil, ↓evsK_cons, ↓evcK_nil, ↓evcK_cons, ↓rK_bind, ↓oK_rK, ↓oK_oK, ↓oK_optK, ↓oK_varK, ↓oK_blK, ↓oK_evK, ↓oK_evsK, tryO_nx, tryO_rt, tryO_exc, tryO_ite, rK_ok, rK_exc, rK_bad, rK_ite, oK_nx, oK_rt, oK_ct, oK_exc, oK_bad, oK_ite, optK_some, optK_none, optK_ite, optK_map, varK_some, blK_bl, negK_int, notK_bl, fnK_fn, enumS_vl, lrngS_int, idx_tup, idx_vl, idx_vd, idx_loc_lst, idx_loc_dct, idx_loc_fdct, idxT_int, sub_lst, aug_lst, augI_int, mkL_false, mkL_true, mkD_false, mkD_true, eqD_bl, eqD_non, eqD_flat, flat_non, flat_bl, flat_int, flat_str, flat_tup, flat_vl, flats_nil, flats_cons, flats_app, nb_non, nb_int, nb_str, nb_tup, nb_vl, nbs_nil, nbs_cons, noLoc_non, noLoc_bl, noLoc_int, noLoc_str, noLoc_tup, noLoc_vl, noLoc_vd, noLocs_nil, noLocs_cons, lit_le, le_lit, lit_lt, lt_lit, Es.len, ctK_nx, ctK_ct, ctK_rt, ctK_exc, ctK_bad, ctK_ite, ctK_rK, ctK_optK, ctK_blK, goK_nil, goK_cons, forK_tup, forK_vl, forK_vd, forK_str, bindT_one, bindT_two, wipeD_nil, wipeD_cons, unlock_tup, unlock_vl, unlock_vd, unlock_str, items_tup, items_vl, items_str, items_vd, all_vl, any_vl, tuple_vl, list_tup, list_vl, range_int, slc_tup, slc_vl, cutO_nil, cutO_int, isA_non, isA_bl, isA_int, isA_str, isA_tup, isA_vl, isA_vd, isOne_bl, len_tup, len_vl, len_vd, bin_sub, bin_add, cmp_lt, cmp_le, cmp_gt, cmp_ge, cmp_eq, cmp_ne, cmp_in, cmp_nin, cmp_is, cmp_isnt, gl_whi, gl_exc_NoPath, gl_exc_NoText, gl_exc_NoTree, gl_exc_Root, gl_exc_NotThere, gl_exc_NoDrawer, gl_exc_IsDrawer, gl_exc_Taken, gl_exc_NotEmpty, gl_exc_Within, gl_exc_TooLong, gl_exc_Full, ar_wall, ar_is_whole, ar_is_name, ar_is_path, ar_is_text, ar_need_path, ar_need_text, ar_lies_within, ar_is_file, ar_one_text, ar_is_tree, ar_need_tree, ar_numbered, ar_names_at, ar_same_file, ar_part_of, ar_need_not_root, ar_need_there, ar_need_place, ar_need_free, ar_need_file, ar_need_room, ar_check_make, ar_check_write, ar_check_read, ar_check_add, ar_check_remove, ar_check_clear, ar_check_move, ar_check_tie, ar_check_list, ar_law_draw, ar_law_pick, ar_law_letter, ar_law_text, ar_law_tree, ar_law_no_path, ar_law_no_tree, ar_law_path, ar_law_chosen, ar_law_do, ar_law_made, ar_law_view, ar_law, gl_LETTERS, gl_MOST, gl_DRAWER, bindT, wipeD, c_is_name, h c hc]]
      simp [isPathD, h1, ↓callN_K, ↓exs_K, ↓exsK_nil, ↓exsK_cons, ↓exK_expr, ↓exK_asg, ↓exK_ret, ↓exK_ifs, ↓exK_raise, ↓exK_any, ↓exK_cont, ↓exK_pass, ↓exK_fors, ↓exK_whl, ↓exK_tryw, ↓exK_augN, ↓exK_augS, ↓exK_augF, ↓stK_name, ↓stK_names, ↓stK_star, starS_vl, ↓stK_sub, ↓stK_fld, ↓evK_var, ↓evK_cst, ↓evK_glb, ↓evK_tup, ↓evK_lst, ↓evK_dct, ↓evK_bin, ↓evK_neg, ↓evK_not, ↓evK_and, ↓evK_or, ↓evK_ite, ↓evK_cmp, ↓evK_chn, ↓evK_idx, ↓evK_slc, ↓evK_rev, ↓evK_fld, ↓evK_call, ↓evK_calv, ↓evK_meth, ↓evK_new, ↓evK_leni, nonK_non, lenY_int, ↓evK_blt, ↓evK_bm, ↓evK_isi, ↓evK_enum, ↓evK_vals, ↓evK_lrng, ↓evK_lc, ↓evsK_nil, ↓evsK_cons, ↓evcK_nil, ↓evcK_cons, ↓rK_bind, ↓oK_rK, ↓oK_oK, ↓oK_optK, ↓oK_varK, ↓oK_blK, ↓oK_evK, ↓oK_evsK, tryO_nx, tryO_rt, tryO_exc, tryO_ite, rK_ok, rK_exc, rK_bad, rK_ite, oK_nx, oK_rt, oK_ct, oK_exc, oK_bad, oK_ite, optK_some, optK_none, optK_ite, optK_map, varK_some, blK_bl, negK_int, notK_bl, fnK_fn, enumS_vl, lrngS_int, idx_tup, idx_vl, idx_vd, idx_loc_lst, idx_loc_dct, idx_loc_fdct, idxT_int, sub_lst, aug_lst, augI_int, mkL_false, mkL_true, mkD_false, mkD_true, eqD_bl, eqD_non, eqD_flat, flat_non, flat_bl, flat_int, flat_str, flat_tup, flat_vl, flats_nil, flats_cons, flats_app, nb_non, nb_int, nb_str, nb_tup, nb_vl, nbs_nil, nbs_cons, noLoc_non, noLoc_bl, noLoc_int, noLoc_str, noLoc_tup, noLoc_vl, noLoc_vd, noLocs_nil, noLocs_cons, lit_le, le_lit, lit_lt, lt_lit, Es.len, ctK_nx, ctK_ct, ctK_rt, ctK_exc, ctK_bad, ctK_ite, ctK_rK, ctK_optK, ctK_blK, goK_nil, goK_cons, forK_tup, forK_vl, forK_vd, forK_str, bindT_one, bindT_two, wipeD_nil, wipeD_cons, unlock_tup, unlock_vl, unlock_vd, unlock_str, items_tup, items_vl, items_str, items_vd, all_vl, any_vl, tuple_vl, list_tup, list_vl, range_int, slc_tup, slc_vl, cutO_nil, cutO_int, isA_non, isA_bl, isA_int, isA_str, isA_tup, isA_vl, isA_vd, isOne_bl, len_tup, len_vl, len_vd, bin_sub, bin_add, cmp_lt, cmp_le, cmp_gt, cmp_ge, cmp_eq, cmp_ne, cmp_in, cmp_nin, cmp_is, cmp_isnt, allB_map]
    · simp [isPathD, h1]
  | fn f => simp [smallP] at h
  | loc l => simp [smallP] at h
  | _ => simp [↓callN_K, ↓exs_K, ↓exsK_nil, ↓exsK_cons, ↓exK_expr, ↓exK_asg, ↓exK_ret, ↓exK_ifs, ↓exK_raise, ↓exK_any, ↓exK_cont, ↓exK_pass, ↓exK_fors, ↓exK_whl, ↓exK_tryw, ↓exK_augN, ↓exK_augS, ↓exK_augF, ↓stK_name, ↓stK_names, ↓stK_star, starS_vl, ↓stK_sub, ↓stK_fld, ↓evK_var, ↓evK_cst, ↓evK_glb, ↓evK_tup, ↓evK_lst, ↓evK_dct, ↓evK_bin, ↓evK_neg, ↓evK_not, ↓evK_and, ↓evK_or, ↓evK_ite, ↓evK_cmp, ↓evK_chn, ↓evK_idx, ↓evK_slc, ↓evK_rev, ↓evK_fld, ↓evK_call, ↓evK_calv, ↓evK_meth, ↓evK_new, ↓evK_leni, nonK_non, lenY_int, ↓evK_blt, ↓evK_bm, ↓evK_isi, ↓evK_enum, ↓evK_vals, ↓evK_lrng, ↓evK_lc, ↓evsK_nil, ↓evsK_cons, ↓evcK_nil, ↓evcK_cons, ↓rK_bind, ↓oK_rK, ↓oK_oK, ↓oK_optK, ↓oK_varK, ↓oK_blK, ↓oK_evK, ↓oK_evsK, tryO_nx, tryO_rt, tryO_exc, tryO_ite, rK_ok, rK_exc, rK_bad, rK_ite, oK_nx, oK_rt, oK_ct, oK_exc, oK_bad, oK_ite, optK_some, optK_none, optK_ite, optK_map, varK_some, blK_bl, negK_int, notK_bl, fnK_fn, enumS_vl, lrngS_int, idx_tup, idx_vl, idx_vd, idx_loc_lst, idx_loc_dct, idx_loc_fdct, idxT_int, sub_lst, aug_lst, augI_int, mkL_false, mkL_true, mkD_false, mkD_true, eqD_bl, eqD_non, eqD_flat, flat_non, flat_bl, flat_int, flat_str, flat_tup, flat_vl, flats_nil, flats_cons, flats_app, nb_non, nb_int, nb_str, nb_tup, nb_vl, nbs_nil, nbs_cons, noLoc_non, noLoc_bl, noLoc_int, noLoc_str, noLoc_tup, noLoc_vl, noLoc_vd, noLocs_nil, noLocs_cons, lit_le, le_lit, lit_lt, lt_lit, Es.len, ctK_nx, ctK_ct, ctK_rt, ctK_exc, ctK_bad, ctK_ite, ctK_rK, ctK_optK, ctK_blK, goK_nil, goK_cons, forK_tup, forK_vl, forK_vd, forK_str, bindT_one, bindT_two, wipeD_nil, wipeD_cons, unlock_tup, unlock_vl, unlock_vd, unlock_str, items_tup, items_vl, items_str, items_vd, all_vl, any_vl, tuple_vl, list_tup, list_vl, range_int, slc_tup, slc_vl, cutO_nil, cutO_int, isA_non, isA_bl, isA_int, isA_str, isA_tup, isA_vl, isA_vd, isOne_bl, len_tup, len_vl, len_vd, bin_sub, bin_add, cmp_lt, cmp_le, cmp_gt, cmp_ge, cmp_eq, cmp_ne, cmp_in, cmp_nin, cmp_is, cmp_isnt, start, isPathD]
theorem c_is_path (n : Nat) (fz : Bool) (d : D) (S : Sto) (h : smallP d = true) : callF (callN P (n + 2)) fz f_is_path [d] S = .ok (.bl (isPathD d)) S := callF_pure rfl (is_path_raw n d S h) rfl
def textS (x : Str) : Bool := decide (x.length ≤ 40) && x.cps.toList.all fun c => decide (c = 32) || letC c
def isTextD : D → Bool
  | .str x => textS x
  | _ => false
theorem eq_blank (S : Sto) (c : Nat) : eqD S (.str ⟨#[c]⟩) (.str (Str.ofString " ")) = some (decide (c = 32)) := by
  rw [eqD_flat (by rw [flat_str]) (by rw [flat_str])]
  have e : Str.ofString " " = ⟨#[32]⟩ := by decide
  rw [e, eqv]
  by_cases h : c = 32 <;> simp [h]
/-! ### paths as values -/
def tp (p : List Str) : D := .tup (p.map D.str)
theorem tp_nil : tp [] = .tup [] := rfl
theorem flat_tp (n : Nat) (p : List Str) : flat (n + 2) (tp p) = true := by
  unfold tp
  rw [flat_tup]
  exact flats_map fun x _ => flat_str n x
theorem nb_tp (p : List Str) : nb (tp p) = true := by
  unfold tp
  rw [nb_tup]
  exact nbs_map fun x _ => nb_str x
theorem noLoc_tp (p : List Str) : noLoc (tp p) = true := by
  unfold tp
  rw [noLoc_tup]
  exact noLocs_map fun x _ => noLoc_str x
theorem tp_inj {p q : List Str} : tp p = tp q ↔ p = q := by
  unfold tp
  constructor
  · intro h
    have h := D.tup.inj h
    exact List.map_inj_right (fun a b e => D.str.inj e) |>.mp h
  · intro h; rw [h]
theorem eqD_tp (S : Sto) (p q : List Str) : eqD S (tp p) (tp q) = some (decide (p = q)) := by
  rw [eqD_flat (flat_tp 8 p) (flat_tp 8 q), eqv_nb _ _ (nb_tp p) (nb_tp q)]
  simp [tp_inj]
theorem eqD_tp0 (S : Sto) (p : List Str) : eqD S (tp p) (.tup []) = some (decide (p = [])) := eqD_tp S p []
theorem len_tp (m : Bool) (S : Sto) (p : List Str) : builtin m S .len (tp p) = .ok (.int p.length) S := by
  unfold tp
  rw [len_tup, List.length_map]
theorem items_tp (pv pu : Bool) (S : Sto) (p : List Str) : itemsOf pv pu S (tp p) = some (p.map D.str) := rfl
theorem cut_map {α β : Type} (f : α → β) (xs : List α) (i j : Option Int) : cutL (xs.map f) i j = (cutL xs i j).map f := by
  unfold cutL
  rw [List.length_map, List.map_take, List.map_drop]
theorem slc_tp (S : Sto) (p : List Str) (i j : Option Int) : sliceI S (tp p) i j = .ok (tp (cutL p i j)) S := by
  unfold tp
  rw [slc_tup, cut_map]
theorem cut_last {α : Type} (xs : List α) : cutL xs none (some (-1)) = xs.dropLast := by
  have e : HT.sIx xs.length xs.length (some (-1)) = xs.length - 1 := by
    show (if (-1 : Int) < 0 then (-1 + (xs.length : Int)).toNat else min (-1 : Int).toNat xs.length) = _
    rw [if_pos (by decide)]
    omega
  unfold cutL
  rw [e, HT.sIx_none, List.drop_zero, Nat.sub_zero, List.dropLast_eq_take]
theorem cut_take {α : Type} (xs : List α) (k : Nat) : cutL xs none (some (k : Int)) = xs.take k := by
  unfold cutL
  rw [HT.sIx_nat, HT.sIx_none, List.drop_zero, Nat.sub_zero]
  rcases Nat.le_total k xs.length with h | h
  · rw [Nat.min_eq_left h]
  · rw [Nat.min_eq_right h, List.take_length, List.take_of_length_le h]
theorem cut_drop {α : Type} (xs : List α) (k : Nat) : cutL xs (some (k : Int)) none = xs.drop k := by
  unfold cutL
  rw [HT.sIx_nat, HT.sIx_none]
  rcases Nat.le_total k xs.length with h | h
  · rw [Nat.min_eq_left h]
    exact List.take_of_length_le (by rw [List.length_drop]; exact Nat.le_refl _)
  · rw [Nat.min_eq_right h, List.drop_length, List.drop_of_length_le h]; simp
theorem unlock_tp (S : Sto) (p : List Str) (S' : Sto) : unlock S S' (tp p) = some S' := rfl
theorem isV_tp (p : List Str) : isV (tp p) = true := rfl
theorem isA_tp (S : Sto) (t : Ity) (p : List Str) : isA S t (tp p) = some (decide (t = .tuple)) := rfl
theorem list_tp (m : Bool) (S : Sto) (p : List Str) : builtin m S .list (tp p) = mkL m (p.map D.str) S := rfl
/-! ### the functions -/
def pathP (p : List Str) : Bool := decide (p.length ≤ 5) && p.all nameS
theorem isPathD_tp (p : List Str) : isPathD (tp p) = pathP p := by
  show (decide ((p.map D.str).length ≤ 5) && (p.map D.str).all isNameD) = _
  rw [List.length_map, List.all_map]; rfl
theorem smallP_tp {p : List Str} (h : ∀ x ∈ p, x.length ≤ 100000) : smallP (tp p) = true := by
  simpa [smallP, tp, small] using h
theorem small_pathP {p : List Str} (h : pathP p = true) : smallP (tp p) = true := by
  simp only [pathP, Bool.and_eq_true, List.all_eq_true, nameS, decide_eq_true_eq] at h
  exact smallP_tp fun x hx => by have := (h.2 x hx).2.1; omega
theorem range_enc (n : Nat) : rangeD n = (List.range n).map fun i : Nat => D.int i := rfl
theorem eqD_vl_tp (S : Sto) (l m : List (List Str)) : eqD S (.vl (l.map tp)) (.vl (m.map tp)) = some (decide (l = m)) := by
  have f : ∀ l : List (List Str), flat 10 (.vl (l.map tp)) = true := fun l => by
    rw [flat_vl]
    exact flats_map fun x _ => flat_tp 7 x
  have g : ∀ l : List (List Str), nb (.vl (l.map tp)) = true := fun l => by
    rw [nb_vl]
    exact nbs_map fun x _ => nb_tp x
  have e : (D.vl (l.map tp) = D.vl (m.map tp)) ↔ l = m := by
    constructor
    · intro h
      exact (List.map_inj_right fun a b e => tp_inj.mp e).mp (D.vl.inj h)
    · intro h; rw [h]
  rw [eqD_flat (f l) (f m), eqv_nb _ _ (g l) (g m)]
  simp only [e]
theorem eqD_vl_str (S : Sto) (l m : List Str) : eqD S (.vl (l.map D.str)) (.vl (m.map D.str)) = some (decide (l = m)) := by
  have f : ∀ l : List Str, flat 10 (.vl (l.map D.str)) = true := fun l => by
    rw [flat_vl]
    exact flats_map fun x _ => flat_str 8 x
  have g : ∀ l : List Str, nb (.vl (l.map D.str)) = true := fun l => by
    rw [nb_vl]
    exact nbs_map fun x _ => nb_str x
  have e : (D.vl (l.map D.str) = D.vl (m.map D.str)) ↔ l = m := by
    constructor
    · intro h
      exact (List.map_inj_right fun a b e => D.str.inj e).mp (D.vl.inj h)
    · intro h; rw [h]
  rw [eqD_flat (f l) (f m), eqv_nb _ _ (g l) (g m)]
  simp only [e]
theorem eqD_take_str (S : Sto) (l m : List Str) (n : Nat) : eqD S (.vl ((l.map D.str).take n)) (.vl (m.map D.str)) = some (decide (l.take n = m)) := by
  rw [← List.map_take, eqD_vl_str]
/-! NoPath: what is no path. -/
def bads : List D := [.non, .str (Str.ofString "a"), .vl [.str (Str.ofString "a")], .tup [.str (Str.ofString "")], .tup [.str (Str.ofString "A")], .tup [.str (Str.ofString "abcde")], .tup [.int 1], .tup [.str (Str.ofString "a"), .non],
  .tup [.str (Str.ofString "a b")], .tup [.str (Str.ofString "a"), .str (Str.ofString "a"), .str (Str.ofString "a"), .str (Str.ofString "a"), .str (Str.ofString "a"), .str (Str.ofString "a")], .int 7, .tup [.str (Str.ofString "a/")], .tup [.tup [.str (Str.ofString "a")]]]
theorem bads_ok : (bads.all fun d => smallP d && !isPathD d) = true := by decide +kernel
theorem bads_pk {i : Nat} (h : i < 13) : smallP (pkD bads i) = true ∧ isPathD (pkD bads i) = false := by
  have := pkD_all bads_ok (i := i) h
  simpa using this
theorem c_no_path (n : Nat) (fz : Bool) (ns : List Int) (t : Town) (r : Sto) : callF (callN P (n + 3)) fz f_law_no_path [.vl (ns.map D.int), .loc 0] (tw t :: r) = .ok (pkD bads (dv ns t 13)) (tw (dt ns t 13) :: r) := by
  have hn : noLocs bads = true := by decide +kernel
  have hp := c_pick n true ns t bads r (by decide) (by decide) hn
  have hl : bads.length = 13 := rfl
  rw [hl] at hp
  have raw : callN P (n + 3) f_law_no_path [.vl (ns.map D.int), .loc 0] (tw t :: r) = .rt (pkD bads (dv ns t 13)) (tw (dt ns t 13) :: r) := by
    unfold bads at hp
    unfold f_law_no_path bads
    simp [↓callN_K, ↓exs_K, ↓exsK_nil, ↓exsK_cons, ↓exK_expr, ↓exK_asg, ↓exK_ret, ↓exK_ifs, ↓exK_raise, ↓exK_any, ↓exK_cont, ↓exK_pass, ↓exK_fors, ↓exK_whl, ↓exK_tryw, ↓exK_augN, ↓exK_augS, ↓exK_augF, ↓stK_name, ↓stK_names, ↓stK_star, starS_vl, ↓stK_sub, ↓stK_fld, ↓evK_var, ↓evK_cst, ↓evK_glb, ↓evK_tup, ↓evK_lst, ↓evK_dct, ↓evK_bin, ↓evK_neg, ↓evK_not, ↓evK_and, ↓evK_or, ↓evK_ite, ↓evK_cmp, ↓evK_chn, ↓evK_idx, ↓evK_slc, ↓evK_rev, ↓evK_fld, ↓evK_call, ↓evK_calv, ↓evK_meth, ↓evK_new, ↓evK_leni, nonK_non, lenY_int, ↓evK_blt, ↓evK_bm, ↓evK_isi, ↓evK_enum, ↓evK_vals, ↓evK_lrng, ↓evK_lc, ↓evsK_nil, ↓evsK_cons, ↓evcK_nil, ↓evcK_cons, ↓rK_bind, ↓oK_rK, ↓oK_oK, ↓oK_optK, ↓oK_varK, ↓oK_blK, ↓oK_evK, ↓oK_evsK, tryO_nx, tryO_rt, tryO_exc, tryO_ite, rK_ok, rK_exc, rK_bad, rK_ite, oK_nx, oK_rt, oK_ct, oK_exc, oK_bad, oK_ite, optK_some, optK_none, optK_ite, optK_map, varK_some, blK_bl, negK_int, notK_bl, fnK_fn, enumS_vl, lrngS_int, idx_tup, idx_vl, idx_vd, idx_loc_lst, idx_loc_dct, idx_loc_fdct, idxT_int, sub_lst, aug_lst, augI_int, mkL_false, mkL_true, mkD_false, mkD_true, eqD_bl, eqD_non, eqD_flat, flat_non, flat_bl, flat_int, flat_str, flat_tup, flat_vl, flats_nil, flats_cons, flats_app, nb_non, nb_int, nb_str, nb_tup, nb_vl, nbs_nil, nbs_cons, noLoc_non, noLoc_bl, noLoc_int, noLoc_str, noLoc_tup, noLoc_vl, noLoc_vd, noLocs_nil, noLocs_cons, lit_le, le_lit, lit_lt, lt_lit, Es.len, ctK_nx, ctK_ct, ctK_rt, ctK_exc, ctK_bad, ctK_ite, ctK_rK, ctK_optK, ctK_blK, goK_nil, goK_cons, forK_tup, forK_vl, forK_vd, forK_str, bindT_one, bindT_two, wipeD_nil, wipeD_cons, unlock_tup, unlock_vl, unlock_vd, unlock_str, items_tup, items_vl, items_str, items_vd, all_vl, any_vl, tuple_vl, list_tup, list_vl, range_int, slc_tup, slc_vl, cutO_nil, cutO_int, isA_non, isA_bl, isA_int, isA_str, isA_tup, isA_vl, isA_vd, isOne_bl, len_tup, len_vl, len_vd, bin_sub, bin_add, cmp_lt, cmp_le, cmp_gt, cmp_ge, cmp_eq, cmp_ne, cmp_in, cmp_nin, cmp_is, cmp_isnt, gl_whi, gl_exc_NoPath, gl_exc_NoText, gl_exc_NoTree, gl_exc_Root, gl_exc_NotThere, gl_exc_NoDrawer, gl_exc_IsDrawer, gl_exc_Taken, gl_exc_NotEmpty, gl_exc_Within, gl_exc_TooLong, gl_exc_Full, ar_wall, ar_is_whole, ar_is_name, ar_is_path, ar_is_text, ar_need_path, ar_need_text, ar_lies_within, ar_is_file, ar_one_text, ar_is_tree, ar_need_tree, ar_numbered, ar_names_at, ar_same_file, ar_part_of, ar_need_not_root, ar_need_there, ar_need_place, ar_need_free, ar_need_file, ar_need_room, ar_check_make, ar_check_write, ar_check_read, ar_check_add, ar_check_remove, ar_check_clear, ar_check_move, ar_check_tie, ar_check_list, ar_law_draw, ar_law_pick, ar_law_letter, ar_law_text, ar_law_tree, ar_law_no_path, ar_law_no_tree, ar_law_path, ar_law_chosen, ar_law_do, ar_law_made, ar_law_view, ar_law, gl_LETTERS, gl_MOST, gl_DRAWER, start, binop, mulD, repL, lstOf, hp]
  rw [callF_rt rfl raw]
  exact fin_val0 (kept_cons (tw_noLoc _) (kept_refl r)) rfl (noLocs_get hn _)
/-! NoTree: what is no tree. -/
def xs (s : String) : D := .str (Str.ofString s)
def drD : D := .tup [xs "drawer"]
def flD (n : Int) (x : String) : D := .tup [xs "file", .int n, xs x]
def rtD : D × D := (.tup [], drD)
def paD (s : String) : D := .tup [xs s]
def badT : List D := [.non, .vl [], .vd [], .vd [(.tup [], .tup [xs "drawer", .bl false])], .vd [(paD "a", drD)], .vd [(.tup [], flD 0 "")], .tup [.tup [], drD],
  .vd [rtD, (xs "a", drD)], .vd [rtD, (.tup [xs "a", xs "b"], drD)], .vd [rtD, (paD "a", flD 1000 "")], .vd [rtD, (paD "a", flD 0 "x"), (paD "b", flD 0 "y")], .vd [rtD, (paD "a", flD 0 "x"), (.tup [xs "a", xs "b"], drD)],
  .vd [rtD, (paD "a", .tup [xs "gone"])], .vd [rtD, (paD "a", .vl [xs "drawer"])], xs "tree", .vd [rtD, (paD "a", .tup [xs "file", .bl true, xs ""])], .vd [rtD, (paD "a", flD 0 "X")], .vd [rtD, (paD "a", .non)],
  .vd [rtD, (paD "a", flD 0 "xxxxxxxxxxxxxxxxxxxxxxxxxxxxxxxxxxxxxxxxx")]]
theorem noLocs_badT : noLocs badT = true := by decide +kernel
theorem badT_len : badT.length = 19 := by rfl
/-- a pick of a list in the store -/
theorem pick_loc (n : Nat) (ns : List Int) (t : Town) (xs : List D) (r : Sto) (h : 0 < xs.length) (h2 : xs.length < 1073741824) :
    callN P (n + 2) f_law_pick [.vl (ns.map D.int), .loc 0, .loc 1] (tw t :: .lst xs :: r) = .rt (xs.getD (dv ns t xs.length) .non) (tw (dt ns t xs.length) :: .lst xs :: r) := by
  have h3 := dv_lt (ns := ns) (t := t) h
  have hl : ∀ m t, builtin m (tw t :: .lst xs :: r) .len (.loc 1) = .ok (.int xs.length) (tw t :: .lst xs :: r) := fun m t => by
    show lenO (tw t :: .lst xs :: r) (.loc 1) = _
    rfl
  have hi : ∀ t i, i < xs.length → index (tw t :: .lst xs :: r) (.loc 1) (.int (i : Nat)) = .ok (xs.getD i .non) (tw t :: .lst xs :: r) := fun t i hi => by
    show idxT (tw t :: .lst xs :: r) xs (.int (i : Nat)) = _
    rw [idxT_at hi]
  unfold f_law_pick
  simp [↓callN_K, ↓exs_K, ↓exsK_nil, ↓exsK_cons, ↓exK_expr, ↓exK_asg, ↓exK_ret, ↓exK_ifs, ↓exK_raise, ↓exK_any, ↓exK_cont, ↓exK_pass, ↓exK_fors, ↓exK_whl, ↓exK_tryw, ↓exK_augN, ↓exK_augS, ↓exK_augF, ↓stK_name, ↓stK_names, ↓stK_star, starS_vl, ↓stK_sub, ↓stK_fld, ↓evK_var, ↓evK_cst, ↓evK_glb, ↓evK_tup, ↓evK_lst, ↓evK_dct, ↓evK_bin, ↓evK_neg, ↓evK_not, ↓evK_and, ↓evK_or, ↓evK_ite, ↓evK_cmp, ↓evK_chn, ↓evK_idx, ↓evK_slc, ↓evK_rev, ↓evK_fld, ↓evK_call, ↓evK_calv, ↓evK_meth, ↓evK_new, ↓evK_leni, nonK_non, lenY_int, ↓evK_blt, ↓evK_bm, ↓evK_isi, ↓evK_enum, ↓evK_vals, ↓evK_lrng, ↓evK_lc, ↓evsK_nil, ↓evsK_cons, ↓evcK_nil, ↓evcK_cons, ↓rK_bind, ↓oK_rK, ↓oK_oK, ↓oK_optK, ↓oK_varK, ↓oK_blK, ↓oK_evK, ↓oK_evsK, tryO_nx, tryO_rt, tryO_exc, tryO_ite, rK_ok, rK_exc, rK_bad, rK_ite, oK_nx, oK_rt, oK_ct, oK_exc, oK_bad, oK_ite, optK_some, optK_none, optK_ite, optK_map, varK_some, blK_bl, negK_int, notK_bl, fnK_fn, enumS_vl, lrngS_int, idx_tup, idx_vl, idx_vd, idx_loc_lst, idx_loc_dct, idx_loc_fdct, idxT_int, sub_lst, aug_lst, augI_int, mkL_false, mkL_true, mkD_false, mkD_true, eqD_bl, eqD_non, eqD_flat, flat_non, flat_bl, flat_int, flat_str, flat_tup, flat_vl, flats_nil, flats_cons, flats_app, nb_non, nb_int, nb_str, nb_tup, nb_vl, nbs_nil, nbs_cons, noLoc_non, noLoc_bl, noLoc_int, noLoc_str, noLoc_tup, noLoc_vl, noLoc_vd, noLocs_nil, noLocs_cons, lit_le, le_lit, lit_lt, lt_lit, Es.len, ctK_nx, ctK_ct, ctK_rt, ctK_exc, ctK_bad, ctK_ite, ctK_rK, ctK_optK, ctK_blK, goK_nil, goK_cons, forK_tup, forK_vl, forK_vd, forK_str, bindT_one, bindT_two, wipeD_nil, wipeD_cons, unlock_tup, unlock_vl, unlock_vd, unlock_str, items_tup, items_vl, items_str, items_vd, all_vl, any_vl, tuple_vl, list_tup, list_vl, range_int, slc_tup, slc_vl, cutO_nil, cutO_int, isA_non, isA_bl, isA_int, isA_str, isA_tup, isA_vl, isA_vd, isOne_bl, len_tup, len_vl, len_vd, bin_sub, bin_add, cmp_lt, cmp_le, cmp_gt, cmp_ge, cmp_eq, cmp_ne, cmp_in, cmp_nin, cmp_is, cmp_isnt, gl_whi, gl_exc_NoPath, gl_exc_NoText, gl_exc_NoTree, gl_exc_Root, gl_exc_NotThere, gl_exc_NoDrawer, gl_exc_IsDrawer, gl_exc_Taken, gl_exc_NotEmpty, gl_exc_Within, gl_exc_TooLong, gl_exc_Full, ar_wall, ar_is_whole, ar_is_name, ar_is_path, ar_is_text, ar_need_path, ar_need_text, ar_lies_within, ar_is_file, ar_one_text, ar_is_tree, ar_need_tree, ar_numbered, ar_names_at, ar_same_file, ar_part_of, ar_need_not_root, ar_need_there, ar_need_place, ar_need_free, ar_need_file, ar_need_room, ar_check_make, ar_check_write, ar_check_read, ar_check_add, ar_check_remove, ar_check_clear, ar_check_move, ar_check_tie, ar_check_list, ar_law_draw, ar_law_pick, ar_law_letter, ar_law_text, ar_law_tree, ar_law_no_path, ar_law_no_tree, ar_law_path, ar_law_chosen, ar_law_do, ar_law_made, ar_law_view, ar_law, gl_LETTERS, gl_MOST, gl_DRAWER, start, c_draw, h, h2, h3, hl, hi]
theorem c_pick_loc (n : Nat) (fz : Bool) (ns : List Int) (t : Town) (xs : List D) (h : 0 < xs.length) (h2 : xs.length < 1073741824) (hn : noLocs xs = true) :
    callF (callN P (n + 2)) fz f_law_pick [.vl (ns.map D.int), .loc 0, .loc 1] [tw t, .lst xs] = .ok (pkD xs (dv ns t xs.length)) [tw (dt ns t xs.length), .lst xs] := by
  rw [callF_rt rfl (pick_loc n ns t xs [] h h2)]
  exact fin_val0 (kept_cons (tw_noLoc _) (kept_refl _)) rfl (noLocs_get hn _)
theorem made_T (c : Fun → List D → Sto → O) (sc : D) (t : Town) : exs P c (ctake 9 f_law_no_tree.body) [some sc, some (.loc 0), none] [tw t] = .nx [some sc, some (.loc 0), some (.loc 1)] [tw t, .lst badT] := by kernel_rfl
theorem c_no_tree (n : Nat) (ns : List Int) (t : Town) : callF (callN P (n + 3)) true f_law_no_tree [.vl (ns.map D.int), .loc 0] [tw t] = .ok (pkD badT (dv ns t 19)) [tw (dt ns t 19)] := by
  have raw : callN P (n + 3) f_law_no_tree [.vl (ns.map D.int), .loc 0] [tw t] = .rt (pkD badT (dv ns t 19)) ([tw (dt ns t 19)] ++ [.lst badT]) := by
    show exs P (callN P (n + 2)) f_law_no_tree.body [some (.vl (ns.map D.int)), some (.loc 0), none] [tw t] = _
    rw [exs_split 9, made_T, oK_nx]
    have hp := c_pick_loc n true ns t badT (by decide) (by decide) noLocs_badT
    rw [badT_len] at hp
    rw [exs_K]
    unfold f_law_no_tree
    simp [↓callN_K, ↓exs_K, ↓exsK_nil, ↓exsK_cons, ↓exK_expr, ↓exK_asg, ↓exK_ret, ↓exK_ifs, ↓exK_raise, ↓exK_any, ↓exK_cont, ↓exK_pass, ↓exK_fors, ↓exK_whl, ↓exK_tryw, ↓exK_augN, ↓exK_augS, ↓exK_augF, ↓stK_name, ↓stK_names, ↓stK_star, starS_vl, ↓stK_sub, ↓stK_fld, ↓evK_var, ↓evK_cst, ↓evK_glb, ↓evK_tup, ↓evK_lst, ↓evK_dct, ↓evK_bin, ↓evK_neg, ↓evK_not, ↓evK_and, ↓evK_or, ↓evK_ite, ↓evK_cmp, ↓evK_chn, ↓evK_idx, ↓evK_slc, ↓evK_rev, ↓evK_fld, ↓evK_call, ↓evK_calv, ↓evK_meth, ↓evK_new, ↓evK_leni, nonK_non, lenY_int, ↓evK_blt, ↓evK_bm, ↓evK_isi, ↓evK_enum, ↓evK_vals, ↓evK_lrng, ↓evK_lc, ↓evsK_nil, ↓evsK_cons, ↓evcK_nil, ↓evcK_cons, ↓rK_bind, ↓oK_rK, ↓oK_oK, ↓oK_optK, ↓oK_varK, ↓oK_blK, ↓oK_evK, ↓oK_evsK, tryO_nx, tryO_rt, tryO_exc, tryO_ite, rK_ok, rK_exc, rK_bad, rK_ite, oK_nx, oK_rt, oK_ct, oK_exc, oK_bad, oK_ite, optK_some, optK_none, optK_ite, optK_map, varK_some, blK_bl, negK_int, notK_bl, fnK_fn, enumS_vl, lrngS_int, idx_tup, idx_vl, idx_vd, idx_loc_lst, idx_loc_dct, idx_loc_fdct, idxT_int, sub_lst, aug_lst, augI_int, mkL_false, mkL_true, mkD_false, mkD_true, eqD_bl, eqD_non, eqD_flat, flat_non, flat_bl, flat_int, flat_str, flat_tup, flat_vl, flats_nil, flats_cons, flats_app, nb_non, nb_int, nb_str, nb_tup, nb_vl, nbs_nil, nbs_cons, noLoc_non, noLoc_bl, noLoc_int, noLoc_str, noLoc_tup, noLoc_vl, noLoc_vd, noLocs_nil, noLocs_cons, lit_le, le_lit, lit_lt, lt_lit, Es.len, ctK_nx, ctK_ct, ctK_rt, ctK_exc, ctK_bad, ctK_ite, ctK_rK, ctK_optK, ctK_blK, goK_nil, goK_cons, forK_tup, forK_vl, forK_vd, forK_str, bindT_one, bindT_two, wipeD_nil, wipeD_cons, unlock_tup, unlock_vl, unlock_vd, unlock_str, items_tup, items_vl, items_str, items_vd, all_vl, any_vl, tuple_vl, list_tup, list_vl, range_int, slc_tup, slc_vl, cutO_nil, cutO_int, isA_non, isA_bl, isA_int, isA_str, isA_tup, isA_vl, isA_vd, isOne_bl, len_tup, len_vl, len_vd, bin_sub, bin_add, cmp_lt, cmp_le, cmp_gt, cmp_ge, cmp_eq, cmp_ne, cmp_in, cmp_nin, cmp_is, cmp_isnt, gl_whi, gl_exc_NoPath, gl_exc_NoText, gl_exc_NoTree, gl_exc_Root, gl_exc_NotThere, gl_exc_NoDrawer, gl_exc_IsDrawer, gl_exc_Taken, gl_exc_NotEmpty, gl_exc_Within, gl_exc_TooLong, gl_exc_Full, ar_wall, ar_is_whole, ar_is_name, ar_is_path, ar_is_text, ar_need_path, ar_need_text, ar_lies_within, ar_is_file, ar_one_text, ar_is_tree, ar_need_tree, ar_numbered, ar_names_at, ar_same_file, ar_part_of, ar_need_not_root, ar_need_there, ar_need_place, ar_need_free, ar_need_file, ar_need_room, ar_check_make, ar_check_write, ar_check_read, ar_check_add, ar_check_remove, ar_check_clear, ar_check_move, ar_check_tie, ar_check_list, ar_law_draw, ar_law_pick, ar_law_letter, ar_law_text, ar_law_tree, ar_law_no_path, ar_law_no_tree, ar_law_path, ar_law_chosen, ar_law_do, ar_law_made, ar_law_view, ar_law, gl_LETTERS, gl_MOST, gl_DRAWER, cdrop, hp]
  rw [callF_rt rfl raw]
  exact fin_val (kept_cons (tw_noLoc _) (by rw [kept])) rfl (noLocs_get noLocs_badT _)
/-! K13: the refusals of a house. -/
def depth : Nat := 14
def x39 : String := "xxxxxxxxxxxxxxxxxxxxxxxxxxxxxxxxxxxxxxx"
def x41 : String := "xxxxxxxxxxxxxxxxxxxxxxxxxxxxxxxxxxxxxxxxx"
def tree0 : List (D × D) := [rtD, (paD "d", drD), (paD "f", flD 0 x39)]
def hs0 : List Ob := [.ins (Str.ofString "House") [(Str.ofString "things", .loc 2), (Str.ofString "fresh", .int 3)], .dct tree0]
def words : List D := [.non, xs x41, xs "X", .int 5, .vl [xs "x"], xs "a|b"]
theorem noLocs_words : noLocs words = true := by decide +kernel
theorem q0 (sc : D) : exs P (callN P 13) (ctake 1 f_law.body) (start f_law [sc]) [] = .nx [some sc, some (.loc 0), none, none, none, none, none, none, none, none] [tw ⟨0, 0⟩] := by kernel_rfl
theorem q2 (sc : D) (t : Town) : ∀ i : Nat, i < 19 → exs P (callN P 13) (ctake 1 (cdrop 2 f_law.body)) [some sc, some (.loc 0), some (pkD badT i), none, none, none, none, none, none, none] [tw t] = .nx [some sc, some (.loc 0), some (pkD badT i), none, none, none, none, none, none, none] [tw t]
  | 0, _ => by kernel_rfl
  | 1, _ => by kernel_rfl
  | 2, _ => by kernel_rfl
  | 3, _ => by kernel_rfl
  | 4, _ => by kernel_rfl
  | 5, _ => by kernel_rfl
  | 6, _ => by kernel_rfl
  | 7, _ => by kernel_rfl
  | 8, _ => by kernel_rfl
  | 9, _ => by kernel_rfl
  | 10, _ => by kernel_rfl
  | 11, _ => by kernel_rfl
  | 12, _ => by kernel_rfl
  | 13, _ => by kernel_rfl
  | 14, _ => by kernel_rfl
  | 15, _ => by kernel_rfl
  | 16, _ => by kernel_rfl
  | 17, _ => by kernel_rfl
  | 18, _ => by kernel_rfl
  | i + 19, h => absurd h (by omega)
theorem q3 (sc b : D) (t : Town) : exs P (callN P 13) (ctake 2 (cdrop 3 f_law.body)) [some sc, some (.loc 0), some b, none, none, none, none, none, none, none] [tw t] = .nx [some sc, some (.loc 0), some b, some (.loc 1), some (.vd tree0), none, none, none, none, none] (tw t :: hs0) := by kernel_rfl
def sl13 (sc b o w : D) (x y z : Option D) : Slots := [some sc, some (.loc 0), some b, some (.loc 1), some (.vd tree0), some o, some w, x, y, z]
theorem q6 (sc b w : D) (t : Town) : ∀ i : Nat, i < 13 → exs P (callN P 13) (ctake 2 (cdrop 6 f_law.body)) (sl13 sc b (pkD bads i) w none none none) (tw t :: hs0) = .nx (sl13 sc b (pkD bads i) w (some (xs "tie")) (some (.tup [])) none) (tw t :: hs0)
  | 0, _ => by kernel_rfl
  | 1, _ => by kernel_rfl
  | 2, _ => by kernel_rfl
  | 3, _ => by kernel_rfl
  | 4, _ => by kernel_rfl
  | 5, _ => by kernel_rfl
  | 6, _ => by kernel_rfl
  | 7, _ => by kernel_rfl
  | 8, _ => by kernel_rfl
  | 9, _ => by kernel_rfl
  | 10, _ => by kernel_rfl
  | 11, _ => by kernel_rfl
  | 12, _ => by kernel_rfl
  | i + 13, h => absurd h (by omega)
theorem q8 (sc b o : D) (t : Town) : ∀ i : Nat, i < 6 → exs P (callN P 13) (ctake 1 (cdrop 8 f_law.body)) (sl13 sc b o (pkD words i) (some (xs "tie")) (some (.tup [])) none) (tw t :: hs0) = .nx (sl13 sc b o (pkD words i) (some (xs "tie")) (some (paD "d")) none) (tw t :: hs0)
  | 0, _ => by kernel_rfl
  | 1, _ => by kernel_rfl
  | 2, _ => by kernel_rfl
  | 3, _ => by kernel_rfl
  | 4, _ => by kernel_rfl
  | 5, _ => by kernel_rfl
  | i + 6, h => absurd h (by omega)
def endB (sc b w : D) (t : Town) (i : Nat) : Bool := isT (exs P (callN P 13) (cdrop 9 f_law.body) (sl13 sc b (pkD bads i) w (some (xs "tie")) (some (paD "d")) none) (tw t :: hs0))
theorem q9 (sc b w : D) (t : Town) : ∀ i : Nat, i < 13 → endB sc b w t i = true
  | 0, _ => by kernel_rfl
  | 1, _ => by kernel_rfl
  | 2, _ => by kernel_rfl
  | 3, _ => by kernel_rfl
  | 4, _ => by kernel_rfl
  | 5, _ => by kernel_rfl
  | 6, _ => by kernel_rfl
  | 7, _ => by kernel_rfl
  | 8, _ => by kernel_rfl
  | 9, _ => by kernel_rfl
  | 10, _ => by kernel_rfl
  | 11, _ => by kernel_rfl
  | 12, _ => by kernel_rfl
  | i + 13, h => absurd h (by omega)
theorem q1 (ns : List Int) (t : Town) : exs P (callN P 13) (ctake 1 (cdrop 1 f_law.body)) [some (.vl (ns.map D.int)), some (.loc 0), none, none, none, none, none, none, none, none] [tw t] = .nx [some (.vl (ns.map D.int)), some (.loc 0), some (pkD badT (dv ns t 19)), none, none, none, none, none, none, none] [tw (dt ns t 19)] := by
  have c1 := c_no_tree 10 ns t
  rw [exs_K]
  unfold f_law
  simp [↓callN_K, ↓exs_K, ↓exsK_nil, ↓exsK_cons, ↓exK_expr, ↓exK_asg, ↓exK_ret, ↓exK_ifs, ↓exK_raise, ↓exK_any, ↓exK_cont, ↓exK_pass, ↓exK_fors, ↓exK_whl, ↓exK_tryw, ↓exK_augN, ↓exK_augS, ↓exK_augF, ↓stK_name, ↓stK_names, ↓stK_star, starS_vl, ↓stK_sub, ↓stK_fld, ↓evK_var, ↓evK_cst, ↓evK_glb, ↓evK_tup, ↓evK_lst, ↓evK_dct, ↓evK_bin, ↓evK_neg, ↓evK_not, ↓evK_and, ↓evK_or, ↓evK_ite, ↓evK_cmp, ↓evK_chn, ↓evK_idx, ↓evK_slc, ↓evK_rev, ↓evK_fld, ↓evK_call, ↓evK_calv, ↓evK_meth, ↓evK_new, ↓evK_leni, nonK_non, lenY_int, ↓evK_blt, ↓evK_bm, ↓evK_isi, ↓evK_enum, ↓evK_vals, ↓evK_lrng, ↓evK_lc, ↓evsK_nil, ↓evsK_cons, ↓evcK_nil, ↓evcK_cons, ↓rK_bind, ↓oK_rK, ↓oK_oK, ↓oK_optK, ↓oK_varK, ↓oK_blK, ↓oK_evK, ↓oK_evsK, tryO_nx, tryO_rt, tryO_exc, tryO_ite, rK_ok, rK_exc, rK_bad, rK_ite, oK_nx, oK_rt, oK_ct, oK_exc, oK_bad, oK_ite, optK_some, optK_none, optK_ite, optK_map, varK_some, blK_bl, negK_int, notK_bl, fnK_fn, enumS_vl, lrngS_int, idx_tup, idx_vl, idx_vd, idx_loc_lst, idx_loc_dct, idx_loc_fdct, idxT_int, sub_lst, aug_lst, augI_int, mkL_false, mkL_true, mkD_false, mkD_true, eqD_bl, eqD_non, eqD_flat, flat_non, flat_bl, flat_int, flat_str, flat_tup, flat_vl, flats_nil, flats_cons, flats_app, nb_non, nb_int, nb_str, nb_tup, nb_vl, nbs_nil, nbs_cons, noLoc_non, noLoc_bl, noLoc_int, noLoc_str, noLoc_tup, noLoc_vl, noLoc_vd, noLocs_nil, noLocs_cons, lit_le, le_lit, lit_lt, lt_lit, Es.len, ctK_nx, ctK_ct, ctK_rt, ctK_exc, ctK_bad, ctK_ite, ctK_rK, ctK_optK, ctK_blK, goK_nil, goK_cons, forK_tup, forK_vl, forK_vd, forK_str, bindT_one, bindT_two, wipeD_nil, wipeD_cons, unlock_tup, unlock_vl, unlock_vd, unlock_str, items_tup, items_vl, items_str, items_vd, all_vl, any_vl, tuple_vl, list_tup, list_vl, range_int, slc_tup, slc_vl, cutO_nil, cutO_int, isA_non, isA_bl, isA_int, isA_str, isA_tup, isA_vl, isA_vd, isOne_bl, len_tup, len_vl, len_vd, bin_sub, bin_add, cmp_lt, cmp_le, cmp_gt, cmp_ge, cmp_eq, cmp_ne, cmp_in, cmp_nin, cmp_is, cmp_isnt, gl_whi, gl_exc_NoPath, gl_exc_NoText, gl_exc_NoTree, gl_exc_Root, gl_exc_NotThere, gl_exc_NoDrawer, gl_exc_IsDrawer, gl_exc_Taken, gl_exc_NotEmpty, gl_exc_Within, gl_exc_TooLong, gl_exc_Full, ar_wall, ar_is_whole, ar_is_name, ar_is_path, ar_is_text, ar_need_path, ar_need_text, ar_lies_within, ar_is_file, ar_one_text, ar_is_tree, ar_need_tree, ar_numbered, ar_names_at, ar_same_file, ar_part_of, ar_need_not_root, ar_need_there, ar_need_place, ar_need_free, ar_need_file, ar_need_room, ar_check_make, ar_check_write, ar_check_read, ar_check_add, ar_check_remove, ar_check_clear, ar_check_move, ar_check_tie, ar_check_list, ar_law_draw, ar_law_pick, ar_law_letter, ar_law_text, ar_law_tree, ar_law_no_path, ar_law_no_tree, ar_law_path, ar_law_chosen, ar_law_do, ar_law_made, ar_law_view, ar_law, gl_LETTERS, gl_MOST, gl_DRAWER, cdrop, ctake, c1]
theorem q5 (ns : List Int) (b : D) (t : Town) : exs P (callN P 13) (ctake 1 (cdrop 5 f_law.body)) [some (.vl (ns.map D.int)), some (.loc 0), some b, some (.loc 1), some (.vd tree0), none, none, none, none, none] (tw t :: hs0) =
    .nx (sl13 (.vl (ns.map D.int)) b (pkD bads (dv ns t 13)) (pkD words (dv ns (dt ns t 13) 6)) none none none) (tw (dt ns (dt ns t 13) 6) :: hs0) := by
  have c1 := c_no_path 10 true ns t hs0
  have c2 := c_pick 11 true ns (dt ns t 13) words hs0 (by decide) (by decide) noLocs_words
  have h6 : words.length = 6 := rfl
  rw [h6] at c2
  have x1 : binop false (tw (dt ns t 13) :: hs0) .mul (.str (Str.ofString "x")) (.int 41) = .ok (xs x41) (tw (dt ns t 13) :: hs0) := by kernel_rfl
  simp only [words] at c2
  rw [exs_K]
  unfold f_law
  simp [↓callN_K, ↓exs_K, ↓exsK_nil, ↓exsK_cons, ↓exK_expr, ↓exK_asg, ↓exK_ret, ↓exK_ifs, ↓exK_raise, ↓exK_any, ↓exK_cont, ↓exK_pass, ↓exK_fors, ↓exK_whl, ↓exK_tryw, ↓exK_augN, ↓exK_augS, ↓exK_augF, ↓stK_name, ↓stK_names, ↓stK_star, starS_vl, ↓stK_sub, ↓stK_fld, ↓evK_var, ↓evK_cst, ↓evK_glb, ↓evK_tup, ↓evK_lst, ↓evK_dct, ↓evK_bin, ↓evK_neg, ↓evK_not, ↓evK_and, ↓evK_or, ↓evK_ite, ↓evK_cmp, ↓evK_chn, ↓evK_idx, ↓evK_slc, ↓evK_rev, ↓evK_fld, ↓evK_call, ↓evK_calv, ↓evK_meth, ↓evK_new, ↓evK_leni, nonK_non, lenY_int, ↓evK_blt, ↓evK_bm, ↓evK_isi, ↓evK_enum, ↓evK_vals, ↓evK_lrng, ↓evK_lc, ↓evsK_nil, ↓evsK_cons, ↓evcK_nil, ↓evcK_cons, ↓rK_bind, ↓oK_rK, ↓oK_oK, ↓oK_optK, ↓oK_varK, ↓oK_blK, ↓oK_evK, ↓oK_evsK, tryO_nx, tryO_rt, tryO_exc, tryO_ite, rK_ok, rK_exc, rK_bad, rK_ite, oK_nx, oK_rt, oK_ct, oK_exc, oK_bad, oK_ite, optK_some, optK_none, optK_ite, optK_map, varK_some, blK_bl, negK_int, notK_bl, fnK_fn, enumS_vl, lrngS_int, idx_tup, idx_vl, idx_vd, idx_loc_lst, idx_loc_dct, idx_loc_fdct, idxT_int, sub_lst, aug_lst, augI_int, mkL_false, mkL_true, mkD_false, mkD_true, eqD_bl, eqD_non, eqD_flat, flat_non, flat_bl, flat_int, flat_str, flat_tup, flat_vl, flats_nil, flats_cons, flats_app, nb_non, nb_int, nb_str, nb_tup, nb_vl, nbs_nil, nbs_cons, noLoc_non, noLoc_bl, noLoc_int, noLoc_str, noLoc_tup, noLoc_vl, noLoc_vd, noLocs_nil, noLocs_cons, lit_le, le_lit, lit_lt, lt_lit, Es.len, ctK_nx, ctK_ct, ctK_rt, ctK_exc, ctK_bad, ctK_ite, ctK_rK, ctK_optK, ctK_blK, goK_nil, goK_cons, forK_tup, forK_vl, forK_vd, forK_str, bindT_one, bindT_two, wipeD_nil, wipeD_cons, unlock_tup, unlock_vl, unlock_vd, unlock_str, items_tup, items_vl, items_str, items_vd, all_vl, any_vl, tuple_vl, list_tup, list_vl, range_int, slc_tup, slc_vl, cutO_nil, cutO_int, isA_non, isA_bl, isA_int, isA_str, isA_tup, isA_vl, isA_vd, isOne_bl, len_tup, len_vl, len_vd, bin_sub, bin_add, cmp_lt, cmp_le, cmp_gt, cmp_ge, cmp_eq, cmp_ne, cmp_in, cmp_nin, cmp_is, cmp_isnt, gl_whi, gl_exc_NoPath, gl_exc_NoText, gl_exc_NoTree, gl_exc_Root, gl_exc_NotThere, gl_exc_NoDrawer, gl_exc_IsDrawer, gl_exc_Taken, gl_exc_NotEmpty, gl_exc_Within, gl_exc_TooLong, gl_exc_Full, ar_wall, ar_is_whole, ar_is_name, ar_is_path, ar_is_text, ar_need_path, ar_need_text, ar_lies_within, ar_is_file, ar_one_text, ar_is_tree, ar_need_tree, ar_numbered, ar_names_at, ar_same_file, ar_part_of, ar_need_not_root, ar_need_there, ar_need_place, ar_need_free, ar_need_file, ar_need_room, ar_check_make, ar_check_write, ar_check_read, ar_check_add, ar_check_remove, ar_check_clear, ar_check_move, ar_check_tie, ar_check_list, ar_law_draw, ar_law_pick, ar_law_letter, ar_law_text, ar_law_tree, ar_law_no_path, ar_law_no_tree, ar_law_path, ar_law_chosen, ar_law_do, ar_law_made, ar_law_view, ar_law, gl_LETTERS, gl_MOST, gl_DRAWER, cdrop, ctake, c1, x1, xs, setAll] at c2 ⊢
  simp [xs, c2, ↓callN_K, ↓exs_K, ↓exsK_nil, ↓exsK_cons, ↓exK_expr, ↓exK_asg, ↓exK_ret, ↓exK_ifs, ↓exK_raise, ↓exK_any, ↓exK_cont, ↓exK_pass, ↓exK_fors, ↓exK_whl, ↓exK_tryw, ↓exK_augN, ↓exK_augS, ↓exK_augF, ↓stK_name, ↓stK_names, ↓stK_star, starS_vl, ↓stK_sub, ↓stK_fld, ↓evK_var, ↓evK_cst, ↓evK_glb, ↓evK_tup, ↓evK_lst, ↓evK_dct, ↓evK_bin, ↓evK_neg, ↓evK_not, ↓evK_and, ↓evK_or, ↓evK_ite, ↓evK_cmp, ↓evK_chn, ↓evK_idx, ↓evK_slc, ↓evK_rev, ↓evK_fld, ↓evK_call, ↓evK_calv, ↓evK_meth, ↓evK_new, ↓evK_leni, nonK_non, lenY_int, ↓evK_blt, ↓evK_bm, ↓evK_isi, ↓evK_enum, ↓evK_vals, ↓evK_lrng, ↓evK_lc, ↓evsK_nil, ↓evsK_cons, ↓evcK_nil, ↓evcK_cons, ↓rK_bind, ↓oK_rK, ↓oK_oK, ↓oK_optK, ↓oK_varK, ↓oK_blK, ↓oK_evK, ↓oK_evsK, tryO_nx, tryO_rt, tryO_exc, tryO_ite, rK_ok, rK_exc, rK_bad, rK_ite, oK_nx, oK_rt, oK_ct, oK_exc, oK_bad, oK_ite, optK_some, optK_none, optK_ite, optK_map, varK_some, blK_bl, negK_int, notK_bl, fnK_fn, enumS_vl, lrngS_int, idx_tup, idx_vl, idx_vd, idx_loc_lst, idx_loc_dct, idx_loc_fdct, idxT_int, sub_lst, aug_lst, augI_int, mkL_false, mkL_true, mkD_false, mkD_true, eqD_bl, eqD_non, eqD_flat, flat_non, flat_bl, flat_int, flat_str, flat_tup, flat_vl, flats_nil, flats_cons, flats_app, nb_non, nb_int, nb_str, nb_tup, nb_vl, nbs_nil, nbs_cons, noLoc_non, noLoc_bl, noLoc_int, noLoc_str, noLoc_tup, noLoc_vl, noLoc_vd, noLocs_nil, noLocs_cons, lit_le, le_lit, lit_lt, lt_lit, Es.len, ctK_nx, ctK_ct, ctK_rt, ctK_exc, ctK_bad, ctK_ite, ctK_rK, ctK_optK, ctK_blK, goK_nil, goK_cons, forK_tup, forK_vl, forK_vd, forK_str, bindT_one, bindT_two, wipeD_nil, wipeD_cons, unlock_tup, unlock_vl, unlock_vd, unlock_str, items_tup, items_vl, items_str, items_vd, all_vl, any_vl, tuple_vl, list_tup, list_vl, range_int, slc_tup, slc_vl, cutO_nil, cutO_int, isA_non, isA_bl, isA_int, isA_str, isA_tup, isA_vl, isA_vd, isOne_bl, len_tup, len_vl, len_vd, bin_sub, bin_add, cmp_lt, cmp_le, cmp_gt, cmp_ge, cmp_eq, cmp_ne, cmp_in, cmp_nin, cmp_is, cmp_isnt, setAll, sl13, words]
theorem law_pure (ns : List Int) (hl : ns.length ≤ 63) : ∃ S, callN P depth f_law [.vl (ns.map D.int)] [] = .rt (.bl true) S := by
  show ∃ S, exs P (callN P 13) f_law.body (start f_law [.vl (ns.map D.int)]) [] = .rt (.bl true) S
  rw [exs_split 1, q0, oK_nx]
  show ∃ S, exs P (callN P 13) (cdrop 1 f_law.body) _ _ = _
  rw [exs_split 1, q1, oK_nx]
  show ∃ S, exs P (callN P 13) (cdrop 2 f_law.body) _ _ = _
  rw [exs_split 1, q2 _ _ _ (dv_lt (by decide)), oK_nx]
  show ∃ S, exs P (callN P 13) (cdrop 3 f_law.body) _ _ = _
  rw [exs_split 2, q3, oK_nx]
  show ∃ S, exs P (callN P 13) (cdrop 5 f_law.body) _ _ = _
  rw [exs_split 1, q5, oK_nx]
  show ∃ S, exs P (callN P 13) (cdrop 6 f_law.body) _ _ = _
  rw [exs_split 2, q6 _ _ _ _ _ (dv_lt (by decide)), oK_nx]
  show ∃ S, exs P (callN P 13) (cdrop 8 f_law.body) _ _ = _
  rw [exs_split 1, q8 _ _ _ _ _ (dv_lt (by decide)), oK_nx]
  exact isT_end (q9 _ _ _ _ _ (dv_lt (by decide)))
end Lt
namespace Lt
open PySem PySem.Spec PyProof.Rows L2
theorem m0 : defB (dF "_wall" 0) f_wall [Str.ofString "k"] = true := by kernel_rfl
theorem d0 {K : PySem.W.Frag} (hs : He.SaysD fa fn K) : ∃ fd, PySem.W.keepIn K (.ref (He.ga K (Str.ofString "_wall"))) = true ∧ DefOk K (He.ga K (Str.ofString "_wall")) f_wall fd :=
  def_of hs 0 (d := dF "_wall" 0) rfl _ m0 fun _ _ _ _ _ _ us hl => match us, hl with
    | [_], _ => rfl
theorem m1 : defB (dF "is_whole" 22) f_is_whole [Str.ofString "thing", Str.ofString "least", Str.ofString "most"] = true := by kernel_rfl
theorem d1 {K : PySem.W.Frag} (hs : He.SaysD fa fn K) : ∃ fd, PySem.W.keepIn K (.ref (He.ga K (Str.ofString "is_whole"))) = true ∧ DefOk K (He.ga K (Str.ofString "is_whole")) f_is_whole fd :=
  def_of hs 1 (d := dF "is_whole" 22) rfl _ m1 fun _ _ _ _ _ _ us hl => match us, hl with
    | [_, _, _], _ => rfl
theorem m2 : defB (dF "is_name" 23) f_is_name [Str.ofString "thing", Str.ofString "sign"] = true := by kernel_rfl
theorem d2 {K : PySem.W.Frag} (hs : He.SaysD fa fn K) : ∃ fd, PySem.W.keepIn K (.ref (He.ga K (Str.ofString "is_name"))) = true ∧ DefOk K (He.ga K (Str.ofString "is_name")) f_is_name fd :=
  def_of hs 2 (d := dF "is_name" 23) rfl _ m2 fun _ _ _ _ _ _ us hl => match us, hl with
    | [_], _ => rfl
theorem m3 : defB (dF "is_path" 24) f_is_path [Str.ofString "thing", Str.ofString "name"] = true := by kernel_rfl
theorem d3 {K : PySem.W.Frag} (hs : He.SaysD fa fn K) : ∃ fd, PySem.W.keepIn K (.ref (He.ga K (Str.ofString "is_path"))) = true ∧ DefOk K (He.ga K (Str.ofString "is_path")) f_is_path fd :=
  def_of hs 3 (d := dF "is_path" 24) rfl _ m3 fun _ _ _ _ _ _ us hl => match us, hl with
    | [_], _ => rfl
theorem m4 : defB (dF "is_text" 25) f_is_text [Str.ofString "thing", Str.ofString "sign"] = true := by kernel_rfl
theorem d4 {K : PySem.W.Frag} (hs : He.SaysD fa fn K) : ∃ fd, PySem.W.keepIn K (.ref (He.ga K (Str.ofString "is_text"))) = true ∧ DefOk K (He.ga K (Str.ofString "is_text")) f_is_text fd :=
  def_of hs 4 (d := dF "is_text" 25) rfl _ m4 fun _ _ _ _ _ _ us hl => match us, hl with
    | [_], _ => rfl
theorem m5 : defB (dF "need_path" 26) f_need_path [Str.ofString "path"] = true := by kernel_rfl
theorem d5 {K : PySem.W.Frag} (hs : He.SaysD fa fn K) : ∃ fd, PySem.W.keepIn K (.ref (He.ga K (Str.ofString "need_path"))) = true ∧ DefOk K (He.ga K (Str.ofString "need_path")) f_need_path fd :=
  def_of hs 5 (d := dF "need_path" 26) rfl _ m5 fun _ _ _ _ _ _ us hl => match us, hl with
    | [_], _ => rfl
theorem m6 : defB (dF "need_text" 27) f_need_text [Str.ofString "text"] = true := by kernel_rfl
theorem d6 {K : PySem.W.Frag} (hs : He.SaysD fa fn K) : ∃ fd, PySem.W.keepIn K (.ref (He.ga K (Str.ofString "need_text"))) = true ∧ DefOk K (He.ga K (Str.ofString "need_text")) f_need_text fd :=
  def_of hs 6 (d := dF "need_text" 27) rfl _ m6 fun _ _ _ _ _ _ us hl => match us, hl with
    | [_], _ => rfl
theorem m7 : defB (dF "lies_within" 28) f_lies_within [Str.ofString "path", Str.ofString "other"] = true := by kernel_rfl
theorem d7 {K : PySem.W.Frag} (hs : He.SaysD fa fn K) : ∃ fd, PySem.W.keepIn K (.ref (He.ga K (Str.ofString "lies_within"))) = true ∧ DefOk K (He.ga K (Str.ofString "lies_within")) f_lies_within fd :=
  def_of hs 7 (d := dF "lies_within" 28) rfl _ m7 fun _ _ _ _ _ _ us hl => match us, hl with
    | [_, _], _ => rfl
theorem m8 : defB (dF "is_file" 32) f_is_file [Str.ofString "thing"] = true := by kernel_rfl
theorem d8 {K : PySem.W.Frag} (hs : He.SaysD fa fn K) : ∃ fd, PySem.W.keepIn K (.ref (He.ga K (Str.ofString "is_file"))) = true ∧ DefOk K (He.ga K (Str.ofString "is_file")) f_is_file fd :=
  def_of hs 8 (d := dF "is_file" 32) rfl _ m8 fun _ _ _ _ _ _ us hl => match us, hl with
    | [_], _ => rfl
theorem m9 : defB (dF "one_text" 33) f_one_text [Str.ofString "things", Str.ofString "book", Str.ofString "thing"] = true := by kernel_rfl
theorem d9 {K : PySem.W.Frag} (hs : He.SaysD fa fn K) : ∃ fd, PySem.W.keepIn K (.ref (He.ga K (Str.ofString "one_text"))) = true ∧ DefOk K (He.ga K (Str.ofString "one_text")) f_one_text fd :=
  def_of hs 9 (d := dF "one_text" 33) rfl _ m9 fun _ _ _ _ _ _ us hl => match us, hl with
    | [_], _ => rfl
theorem m10 : defB (dF "is_tree" 34) f_is_tree [Str.ofString "thing", Str.ofString "path"] = true := by kernel_rfl
theorem d10 {K : PySem.W.Frag} (hs : He.SaysD fa fn K) : ∃ fd, PySem.W.keepIn K (.ref (He.ga K (Str.ofString "is_tree"))) = true ∧ DefOk K (He.ga K (Str.ofString "is_tree")) f_is_tree fd :=
  def_of hs 10 (d := dF "is_tree" 34) rfl _ m10 fun _ _ _ _ _ _ us hl => match us, hl with
    | [_], _ => rfl
theorem m11 : defB (dF "need_tree" 35) f_need_tree [Str.ofString "thing"] = true := by kernel_rfl
theorem d11 {K : PySem.W.Frag} (hs : He.SaysD fa fn K) : ∃ fd, PySem.W.keepIn K (.ref (He.ga K (Str.ofString "need_tree"))) = true ∧ DefOk K (He.ga K (Str.ofString "need_tree")) f_need_tree fd :=
  def_of hs 11 (d := dF "need_tree" 35) rfl _ m11 fun _ _ _ _ _ _ us hl => match us, hl with
    | [_], _ => rfl
theorem m12 : defB (dF "numbered" 36) f_numbered [Str.ofString "tree", Str.ofString "book", Str.ofString "made", Str.ofString "path", Str.ofString "thing"] = true := by kernel_rfl
theorem d12 {K : PySem.W.Frag} (hs : He.SaysD fa fn K) : ∃ fd, PySem.W.keepIn K (.ref (He.ga K (Str.ofString "numbered"))) = true ∧ DefOk K (He.ga K (Str.ofString "numbered")) f_numbered fd :=
  def_of hs 12 (d := dF "numbered" 36) rfl _ m12 fun _ _ _ _ _ _ us hl => match us, hl with
    | [_], _ => rfl
theorem m13 : defB (dF "names_at" 37) f_names_at [Str.ofString "tree", Str.ofString "path", Str.ofString "one"] = true := by kernel_rfl
theorem d13 {K : PySem.W.Frag} (hs : He.SaysD fa fn K) : ∃ fd, PySem.W.keepIn K (.ref (He.ga K (Str.ofString "names_at"))) = true ∧ DefOk K (He.ga K (Str.ofString "names_at")) f_names_at fd :=
  def_of hs 13 (d := dF "names_at" 37) rfl _ m13 fun _ _ _ _ _ _ us hl => match us, hl with
    | [_, _], _ => rfl
theorem m14 : defB (dF "same_file" 38) f_same_file [Str.ofString "tree", Str.ofString "path", Str.ofString "number", Str.ofString "one"] = true := by kernel_rfl
theorem d14 {K : PySem.W.Frag} (hs : He.SaysD fa fn K) : ∃ fd, PySem.W.keepIn K (.ref (He.ga K (Str.ofString "same_file"))) = true ∧ DefOk K (He.ga K (Str.ofString "same_file")) f_same_file fd :=
  def_of hs 14 (d := dF "same_file" 38) rfl _ m14 fun _ _ _ _ _ _ us hl => match us, hl with
    | [_, _], _ => rfl
theorem m15 : defB (dF "part_of" 39) f_part_of [Str.ofString "tree", Str.ofString "path", Str.ofString "one"] = true := by kernel_rfl
theorem d15 {K : PySem.W.Frag} (hs : He.SaysD fa fn K) : ∃ fd, PySem.W.keepIn K (.ref (He.ga K (Str.ofString "part_of"))) = true ∧ DefOk K (He.ga K (Str.ofString "part_of")) f_part_of fd :=
  def_of hs 15 (d := dF "part_of" 39) rfl _ m15 fun _ _ _ _ _ _ us hl => match us, hl with
    | [_, _], _ => rfl
theorem m16 : defB (dF "need_not_root" 41) f_need_not_root [Str.ofString "path"] = true := by kernel_rfl
theorem d16 {K : PySem.W.Frag} (hs : He.SaysD fa fn K) : ∃ fd, PySem.W.keepIn K (.ref (He.ga K (Str.ofString "need_not_root"))) = true ∧ DefOk K (He.ga K (Str.ofString "need_not_root")) f_need_not_root fd :=
  def_of hs 16 (d := dF "need_not_root" 41) rfl _ m16 fun _ _ _ _ _ _ us hl => match us, hl with
    | [_], _ => rfl
theorem m17 : defB (dF "need_there" 42) f_need_there [Str.ofString "tree", Str.ofString "path"] = true := by kernel_rfl
theorem d17 {K : PySem.W.Frag} (hs : He.SaysD fa fn K) : ∃ fd, PySem.W.keepIn K (.ref (He.ga K (Str.ofString "need_there"))) = true ∧ DefOk K (He.ga K (Str.ofString "need_there")) f_need_there fd :=
  def_of hs 17 (d := dF "need_there" 42) rfl _ m17 fun _ _ _ _ _ _ us hl => match us, hl with
    | [_, _], _ => rfl
theorem m18 : defB (dF "need_place" 43) f_need_place [Str.ofString "tree", Str.ofString "path"] = true := by kernel_rfl
theorem d18 {K : PySem.W.Frag} (hs : He.SaysD fa fn K) : ∃ fd, PySem.W.keepIn K (.ref (He.ga K (Str.ofString "need_place"))) = true ∧ DefOk K (He.ga K (Str.ofString "need_place")) f_need_place fd :=
  def_of hs 18 (d := dF "need_place" 43) rfl _ m18 fun _ _ _ _ _ _ us hl => match us, hl with
    | [_, _], _ => rfl
theorem m19 : defB (dF "need_free" 44) f_need_free [Str.ofString "tree", Str.ofString "path"] = true := by kernel_rfl
theorem d19 {K : PySem.W.Frag} (hs : He.SaysD fa fn K) : ∃ fd, PySem.W.keepIn K (.ref (He.ga K (Str.ofString "need_free"))) = true ∧ DefOk K (He.ga K (Str.ofString "need_free")) f_need_free fd :=
  def_of hs 19 (d := dF "need_free" 44) rfl _ m19 fun _ _ _ _ _ _ us hl => match us, hl with
    | [_, _], _ => rfl
theorem m20 : defB (dF "need_file" 45) f_need_file [Str.ofString "tree", Str.ofString "path"] = true := by kernel_rfl
theorem d20 {K : PySem.W.Frag} (hs : He.SaysD fa fn K) : ∃ fd, PySem.W.keepIn K (.ref (He.ga K (Str.ofString "need_file"))) = true ∧ DefOk K (He.ga K (Str.ofString "need_file")) f_need_file fd :=
  def_of hs 20 (d := dF "need_file" 45) rfl _ m20 fun _ _ _ _ _ _ us hl => match us, hl with
    | [_, _], _ => rfl
theorem m21 : defB (dF "need_room" 46) f_need_room [Str.ofString "tree"] = true := by kernel_rfl
theorem d21 {K : PySem.W.Frag} (hs : He.SaysD fa fn K) : ∃ fd, PySem.W.keepIn K (.ref (He.ga K (Str.ofString "need_room"))) = true ∧ DefOk K (He.ga K (Str.ofString "need_room")) f_need_room fd :=
  def_of hs 21 (d := dF "need_room" 46) rfl _ m21 fun _ _ _ _ _ _ us hl => match us, hl with
    | [_], _ => rfl
theorem m22 : defB (dF "check_make" 47) f_check_make [Str.ofString "tree", Str.ofString "path"] = true := by kernel_rfl
theorem d22 {K : PySem.W.Frag} (hs : He.SaysD fa fn K) : ∃ fd, PySem.W.keepIn K (.ref (He.ga K (Str.ofString "check_make"))) = true ∧ DefOk K (He.ga K (Str.ofString "check_make")) f_check_make fd :=
  def_of hs 22 (d := dF "check_make" 47) rfl _ m22 fun _ _ _ _ _ _ us hl => match us, hl with
    | [_, _], _ => rfl
theorem m23 : defB (dF "check_write" 48) f_check_write [Str.ofString "tree", Str.ofString "path", Str.ofString "text"] = true := by kernel_rfl
theorem d23 {K : PySem.W.Frag} (hs : He.SaysD fa fn K) : ∃ fd, PySem.W.keepIn K (.ref (He.ga K (Str.ofString "check_write"))) = true ∧ DefOk K (He.ga K (Str.ofString "check_write")) f_check_write fd :=
  def_of hs 23 (d := dF "check_write" 48) rfl _ m23 fun _ _ _ _ _ _ us hl => match us, hl with
    | [_, _, _], _ => rfl
theorem m24 : defB (dF "check_read" 49) f_check_read [Str.ofString "tree", Str.ofString "path"] = true := by kernel_rfl
theorem d24 {K : PySem.W.Frag} (hs : He.SaysD fa fn K) : ∃ fd, PySem.W.keepIn K (.ref (He.ga K (Str.ofString "check_read"))) = true ∧ DefOk K (He.ga K (Str.ofString "check_read")) f_check_read fd :=
  def_of hs 24 (d := dF "check_read" 49) rfl _ m24 fun _ _ _ _ _ _ us hl => match us, hl with
    | [_, _], _ => rfl
theorem m25 : defB (dF "check_add" 50) f_check_add [Str.ofString "tree", Str.ofString "path", Str.ofString "text"] = true := by kernel_rfl
theorem d25 {K : PySem.W.Frag} (hs : He.SaysD fa fn K) : ∃ fd, PySem.W.keepIn K (.ref (He.ga K (Str.ofString "check_add"))) = true ∧ DefOk K (He.ga K (Str.ofString "check_add")) f_check_add fd :=
  def_of hs 25 (d := dF "check_add" 50) rfl _ m25 fun _ _ _ _ _ _ us hl => match us, hl with
    | [_, _, _], _ => rfl
theorem m26 : defB (dF "check_remove" 51) f_check_remove [Str.ofString "tree", Str.ofString "path"] = true := by kernel_rfl
theorem d26 {K : PySem.W.Frag} (hs : He.SaysD fa fn K) : ∃ fd, PySem.W.keepIn K (.ref (He.ga K (Str.ofString "check_remove"))) = true ∧ DefOk K (He.ga K (Str.ofString "check_remove")) f_check_remove fd :=
  def_of hs 26 (d := dF "check_remove" 51) rfl _ m26 fun _ _ _ _ _ _ us hl => match us, hl with
    | [_, _], _ => rfl
theorem m27 : defB (dF "check_clear" 52) f_check_clear [Str.ofString "tree", Str.ofString "path"] = true := by kernel_rfl
theorem d27 {K : PySem.W.Frag} (hs : He.SaysD fa fn K) : ∃ fd, PySem.W.keepIn K (.ref (He.ga K (Str.ofString "check_clear"))) = true ∧ DefOk K (He.ga K (Str.ofString "check_clear")) f_check_clear fd :=
  def_of hs 27 (d := dF "check_clear" 52) rfl _ m27 fun _ _ _ _ _ _ us hl => match us, hl with
    | [_, _], _ => rfl
theorem m28 : defB (dF "check_move" 53) f_check_move [Str.ofString "tree", Str.ofString "old", Str.ofString "new", Str.ofString "path"] = true := by kernel_rfl
theorem d28 {K : PySem.W.Frag} (hs : He.SaysD fa fn K) : ∃ fd, PySem.W.keepIn K (.ref (He.ga K (Str.ofString "check_move"))) = true ∧ DefOk K (He.ga K (Str.ofString "check_move")) f_check_move fd :=
  def_of hs 28 (d := dF "check_move" 53) rfl _ m28 fun _ _ _ _ _ _ us hl => match us, hl with
    | [_, _, _], _ => rfl
theorem m29 : defB (dF "check_tie" 54) f_check_tie [Str.ofString "tree", Str.ofString "old", Str.ofString "new"] = true := by kernel_rfl
theorem d29 {K : PySem.W.Frag} (hs : He.SaysD fa fn K) : ∃ fd, PySem.W.keepIn K (.ref (He.ga K (Str.ofString "check_tie"))) = true ∧ DefOk K (He.ga K (Str.ofString "check_tie")) f_check_tie fd :=
  def_of hs 29 (d := dF "check_tie" 54) rfl _ m29 fun _ _ _ _ _ _ us hl => match us, hl with
    | [_, _, _], _ => rfl
theorem m30 : defB (dF "check_list" 55) f_check_list [Str.ofString "tree", Str.ofString "path"] = true := by kernel_rfl
theorem d30 {K : PySem.W.Frag} (hs : He.SaysD fa fn K) : ∃ fd, PySem.W.keepIn K (.ref (He.ga K (Str.ofString "check_list"))) = true ∧ DefOk K (He.ga K (Str.ofString "check_list")) f_check_list fd :=
  def_of hs 30 (d := dF "check_list" 55) rfl _ m30 fun _ _ _ _ _ _ us hl => match us, hl with
    | [_, _], _ => rfl
theorem m31 : defB (dF "_law_draw" 59) f_law_draw [Str.ofString "_law_script", Str.ofString "_law_town", Str.ofString "_law_many", Str.ofString "_law_one", Str.ofString "_law_at", Str.ofString "_law_mixed"] = true := by kernel_rfl
theorem d31 {K : PySem.W.Frag} (hs : He.SaysD fa fn K) : ∃ fd, PySem.W.keepIn K (.ref (He.ga K (Str.ofString "_law_draw"))) = true ∧ DefOk K (He.ga K (Str.ofString "_law_draw")) f_law_draw fd :=
  def_of hs 31 (d := dF "_law_draw" 59) rfl _ m31 fun _ _ _ _ _ _ us hl => match us, hl with
    | [_, _, _], _ => rfl
theorem m32 : defB (dF "_law_pick" 60) f_law_pick [Str.ofString "_law_script", Str.ofString "_law_town", Str.ofString "_law_some"] = true := by kernel_rfl
theorem d32 {K : PySem.W.Frag} (hs : He.SaysD fa fn K) : ∃ fd, PySem.W.keepIn K (.ref (He.ga K (Str.ofString "_law_pick"))) = true ∧ DefOk K (He.ga K (Str.ofString "_law_pick")) f_law_pick fd :=
  def_of hs 32 (d := dF "_law_pick" 60) rfl _ m32 fun _ _ _ _ _ _ us hl => match us, hl with
    | [_, _, _], _ => rfl
theorem m33 : defB (dF "_law_letter" 61) f_law_letter [Str.ofString "_law_script", Str.ofString "_law_town"] = true := by kernel_rfl
theorem d33 {K : PySem.W.Frag} (hs : He.SaysD fa fn K) : ∃ fd, PySem.W.keepIn K (.ref (He.ga K (Str.ofString "_law_letter"))) = true ∧ DefOk K (He.ga K (Str.ofString "_law_letter")) f_law_letter fd :=
  def_of hs 33 (d := dF "_law_letter" 61) rfl _ m33 fun _ _ _ _ _ _ us hl => match us, hl with
    | [_, _], _ => rfl
theorem m34 : defB (dF "_law_text" 62) f_law_text [Str.ofString "_law_script", Str.ofString "_law_town"] = true := by kernel_rfl
theorem d34 {K : PySem.W.Frag} (hs : He.SaysD fa fn K) : ∃ fd, PySem.W.keepIn K (.ref (He.ga K (Str.ofString "_law_text"))) = true ∧ DefOk K (He.ga K (Str.ofString "_law_text")) f_law_text fd :=
  def_of hs 34 (d := dF "_law_text" 62) rfl _ m34 fun _ _ _ _ _ _ us hl => match us, hl with
    | [_, _], _ => rfl
theorem m35 : defB (dF "_law_tree" 63) f_law_tree [Str.ofString "_law_script", Str.ofString "_law_town", Str.ofString "_law_many", Str.ofString "_law_made_here", Str.ofString "_law_texts", Str.ofString "_law_k", Str.ofString "_law_rooms", Str.ofString "_law_path_here", Str.ofString "_law_number"] = true := by kernel_rfl
theorem d35 {K : PySem.W.Frag} (hs : He.SaysD fa fn K) : ∃ fd, PySem.W.keepIn K (.ref (He.ga K (Str.ofString "_law_tree"))) = true ∧ DefOk K (He.ga K (Str.ofString "_law_tree")) f_law_tree fd :=
  def_of hs 35 (d := dF "_law_tree" 63) rfl _ m35 fun _ _ _ _ _ _ us hl => match us, hl with
    | [_, _, _], _ => rfl
theorem m36 : defB (dF "_law_no_path" 64) f_law_no_path [Str.ofString "_law_script", Str.ofString "_law_town", Str.ofString "_law_bad"] = true := by kernel_rfl
theorem d36 {K : PySem.W.Frag} (hs : He.SaysD fa fn K) : ∃ fd, PySem.W.keepIn K (.ref (He.ga K (Str.ofString "_law_no_path"))) = true ∧ DefOk K (He.ga K (Str.ofString "_law_no_path")) f_law_no_path fd :=
  def_of hs 36 (d := dF "_law_no_path" 64) rfl _ m36 fun _ _ _ _ _ _ us hl => match us, hl with
    | [_, _], _ => rfl
theorem m37 : defB (dF "_law_no_tree" 65) f_law_no_tree [Str.ofString "_law_script", Str.ofString "_law_town", Str.ofString "_law_bad"] = true := by kernel_rfl
theorem d37 {K : PySem.W.Frag} (hs : He.SaysD fa fn K) : ∃ fd, PySem.W.keepIn K (.ref (He.ga K (Str.ofString "_law_no_tree"))) = true ∧ DefOk K (He.ga K (Str.ofString "_law_no_tree")) f_law_no_tree fd :=
  def_of hs 37 (d := dF "_law_no_tree" 65) rfl _ m37 fun _ _ _ _ _ _ us hl => match us, hl with
    | [_, _], _ => rfl
theorem mW : whDefB (dF "_law_which" 66) = true := by kernel_rfl
theorem dW {K : PySem.W.Frag} (hs : He.SaysD fa fn K) : ∃ fd, PySem.W.keepIn K (.ref (He.ga K (Str.ofString "_law_which"))) = true ∧ WhDef K (He.ga K (Str.ofString "_law_which")) fd :=
  whDef_of hs 38 (d := dF "_law_which" 66) rfl mW fun _ _ _ _ _ _ us hl => match us, hl with
    | [_], _ => rfl
theorem m39 : defB (dF "_law_path" 67) f_law_path [Str.ofString "_law_script", Str.ofString "_law_town", Str.ofString "_law_tree_here", Str.ofString "_law_path_here", Str.ofString "_law_what"] = true := by kernel_rfl
theorem d39 {K : PySem.W.Frag} (hs : He.SaysD fa fn K) : ∃ fd, PySem.W.keepIn K (.ref (He.ga K (Str.ofString "_law_path"))) = true ∧ DefOk K (He.ga K (Str.ofString "_law_path")) f_law_path fd :=
  def_of hs 39 (d := dF "_law_path" 67) rfl _ m39 fun _ _ _ _ _ _ us hl => match us, hl with
    | [_, _, _], _ => rfl
theorem m40 : defB (dF "_law_chosen" 68) f_law_chosen [Str.ofString "_law_script", Str.ofString "_law_town", Str.ofString "_law_tree_here", Str.ofString "_law_name"] = true := by kernel_rfl
theorem d40 {K : PySem.W.Frag} (hs : He.SaysD fa fn K) : ∃ fd, PySem.W.keepIn K (.ref (He.ga K (Str.ofString "_law_chosen"))) = true ∧ DefOk K (He.ga K (Str.ofString "_law_chosen")) f_law_chosen fd :=
  def_of hs 40 (d := dF "_law_chosen" 68) rfl _ m40 fun _ _ _ _ _ _ us hl => match us, hl with
    | [_, _, _], _ => rfl
theorem m41 : defB (dF "_law_do" 69) f_law_do [Str.ofString "_law_house", Str.ofString "_law_deed", Str.ofString "_law_name", Str.ofString "_law_path_here", Str.ofString "_law_other", Str.ofString "_law_word", Str.ofString "_law_e"] = true := by kernel_rfl
theorem d41 {K : PySem.W.Frag} (hs : He.SaysD fa fn K) : ∃ fd, PySem.W.keepIn K (.ref (He.ga K (Str.ofString "_law_do"))) = true ∧ DefOk K (He.ga K (Str.ofString "_law_do")) f_law_do fd :=
  def_of hs 41 (d := dF "_law_do" 69) rfl _ m41 fun _ _ _ _ _ _ us hl => match us, hl with
    | [_, _], _ => rfl
theorem m42 : defB (dF "_law_made" 70) f_law_made [Str.ofString "_law_tree_here", Str.ofString "_law_e"] = true := by kernel_rfl
theorem d42 {K : PySem.W.Frag} (hs : He.SaysD fa fn K) : ∃ fd, PySem.W.keepIn K (.ref (He.ga K (Str.ofString "_law_made"))) = true ∧ DefOk K (He.ga K (Str.ofString "_law_made")) f_law_made fd :=
  def_of hs 42 (d := dF "_law_made" 70) rfl _ m42 fun _ _ _ _ _ _ us hl => match us, hl with
    | [_], _ => rfl
theorem m43 : defB (dF "_law_view" 71) f_law_view [Str.ofString "_law_house", Str.ofString "_law_what", Str.ofString "_law_path_here", Str.ofString "_law_e"] = true := by kernel_rfl
theorem d43 {K : PySem.W.Frag} (hs : He.SaysD fa fn K) : ∃ fd, PySem.W.keepIn K (.ref (He.ga K (Str.ofString "_law_view"))) = true ∧ DefOk K (He.ga K (Str.ofString "_law_view")) f_law_view fd :=
  def_of hs 43 (d := dF "_law_view" 71) rfl _ m43 fun _ _ _ _ _ _ us hl => match us, hl with
    | [_, _, _], _ => rfl
theorem m44 : defB (dF "law" 72) f_law [Str.ofString "_law_script", Str.ofString "_law_town", Str.ofString "_law_bad", Str.ofString "_law_house", Str.ofString "_law_before", Str.ofString "_law_odd", Str.ofString "_law_word", Str.ofString "_law_name", Str.ofString "_law_path_here", Str.ofString "_law_what"] = true := by kernel_rfl
theorem d44 {K : PySem.W.Frag} (hs : He.SaysD fa fn K) : ∃ fd, PySem.W.keepIn K (.ref (He.ga K (Str.ofString "law"))) = true ∧ DefOk K (He.ga K (Str.ofString "law")) f_law fd :=
  def_of hs 44 (d := dF "law" 72) rfl _ m44 fun _ _ _ _ _ _ us hl => match us, hl with
    | [_], _ => rfl
theorem mm0 : mdefB (dM "House" "__init__" 57 0 "House.__init__" [.non]) f_House_init [Str.ofString "self", Str.ofString "tree"] = true := by kernel_rfl
theorem dm0 {K : PySem.W.Frag} (hs : He.SaysD fa fn K) : ∃ fd, MDefOk K (He.ma K (He.ga K (Str.ofString "House")) (Str.ofString "__init__")) f_House_init fd :=
  mdefD hs 45 (d := dM "House" "__init__" 57 0 "House.__init__" [.non]) rfl (m := 1) _ mm0 rfl rfl rfl rfl (fun _ _ _ _ _ _ _ us u hl => match us, hl with
    | [_], _ => ⟨_, rfl, rfl⟩) (fun _ _ _ _ _ _ _ us u hl => match us, hl with
    | [_, _], _ => ⟨_, rfl, rfl⟩)
theorem mm1 : mdefB (dM "House" "make" 57 1 "House.make" []) f_House_make [Str.ofString "self", Str.ofString "path"] = true := by kernel_rfl
theorem dm1 {K : PySem.W.Frag} (hs : He.SaysD fa fn K) : ∃ fd, MDefOk K (He.ma K (He.ga K (Str.ofString "House")) (Str.ofString "make")) f_House_make fd :=
  mdefN hs 46 (d := dM "House" "make" 57 1 "House.make" []) rfl _ mm1 rfl rfl rfl fun _ _ _ _ _ _ us hl => match us, hl with
    | [_, _], _ => rfl
theorem mm2 : mdefB (dM "House" "give" 57 2 "House.give" []) f_House_give [Str.ofString "self", Str.ofString "path", Str.ofString "text", Str.ofString "one"] = true := by kernel_rfl
theorem dm2 {K : PySem.W.Frag} (hs : He.SaysD fa fn K) : ∃ fd, MDefOk K (He.ma K (He.ga K (Str.ofString "House")) (Str.ofString "give")) f_House_give fd :=
  mdefN hs 47 (d := dM "House" "give" 57 2 "House.give" []) rfl _ mm2 rfl rfl rfl fun _ _ _ _ _ _ us hl => match us, hl with
    | [_, _, _], _ => rfl
theorem mm3 : mdefB (dM "House" "write" 57 3 "House.write" []) f_House_write [Str.ofString "self", Str.ofString "path", Str.ofString "text"] = true := by kernel_rfl
theorem dm3 {K : PySem.W.Frag} (hs : He.SaysD fa fn K) : ∃ fd, MDefOk K (He.ma K (He.ga K (Str.ofString "House")) (Str.ofString "write")) f_House_write fd :=
  mdefK hs 48 (d := dM "House" "write" 57 3 "House.write" []) rfl (x := Str.ofString "text") _ mm3 rfl rfl rfl fun _ _ _ _ _ _ us w hl => match us, hl with
    | [_, _], _ => rfl
theorem mm4 : mdefB (dM "House" "add" 57 4 "House.add" []) f_House_add [Str.ofString "self", Str.ofString "path", Str.ofString "text"] = true := by kernel_rfl
theorem dm4 {K : PySem.W.Frag} (hs : He.SaysD fa fn K) : ∃ fd, MDefOk K (He.ma K (He.ga K (Str.ofString "House")) (Str.ofString "add")) f_House_add fd :=
  mdefK hs 49 (d := dM "House" "add" 57 4 "House.add" []) rfl (x := Str.ofString "text") _ mm4 rfl rfl rfl fun _ _ _ _ _ _ us w hl => match us, hl with
    | [_, _], _ => rfl
theorem mm5 : mdefB (dM "House" "remove" 57 5 "House.remove" []) f_House_remove [Str.ofString "self", Str.ofString "path"] = true := by kernel_rfl
theorem dm5 {K : PySem.W.Frag} (hs : He.SaysD fa fn K) : ∃ fd, MDefOk K (He.ma K (He.ga K (Str.ofString "House")) (Str.ofString "remove")) f_House_remove fd :=
  mdefN hs 50 (d := dM "House" "remove" 57 5 "House.remove" []) rfl _ mm5 rfl rfl rfl fun _ _ _ _ _ _ us hl => match us, hl with
    | [_, _], _ => rfl
theorem mm6 : mdefB (dM "House" "clear" 57 6 "House.clear" []) f_House_clear [Str.ofString "self", Str.ofString "path", Str.ofString "one"] = true := by kernel_rfl
theorem dm6 {K : PySem.W.Frag} (hs : He.SaysD fa fn K) : ∃ fd, MDefOk K (He.ma K (He.ga K (Str.ofString "House")) (Str.ofString "clear")) f_House_clear fd :=
  mdefN hs 51 (d := dM "House" "clear" 57 6 "House.clear" []) rfl _ mm6 rfl rfl rfl fun _ _ _ _ _ _ us hl => match us, hl with
    | [_, _], _ => rfl
theorem mm7 : mdefB (dM "House" "move" 57 7 "House.move" []) f_House_move [Str.ofString "self", Str.ofString "old", Str.ofString "new", Str.ofString "one"] = true := by kernel_rfl
theorem dm7 {K : PySem.W.Frag} (hs : He.SaysD fa fn K) : ∃ fd, MDefOk K (He.ma K (He.ga K (Str.ofString "House")) (Str.ofString "move")) f_House_move fd :=
  mdefN hs 52 (d := dM "House" "move" 57 7 "House.move" []) rfl _ mm7 rfl rfl rfl fun _ _ _ _ _ _ us hl => match us, hl with
    | [_, _, _], _ => rfl
theorem mm8 : mdefB (dM "House" "tie" 57 8 "House.tie" []) f_House_tie [Str.ofString "self", Str.ofString "old", Str.ofString "new"] = true := by kernel_rfl
theorem dm8 {K : PySem.W.Frag} (hs : He.SaysD fa fn K) : ∃ fd, MDefOk K (He.ma K (He.ga K (Str.ofString "House")) (Str.ofString "tie")) f_House_tie fd :=
  mdefN hs 53 (d := dM "House" "tie" 57 8 "House.tie" []) rfl _ mm8 rfl rfl rfl fun _ _ _ _ _ _ us hl => match us, hl with
    | [_, _, _], _ => rfl
theorem mm9 : mdefB (dM "House" "kind" 57 9 "House.kind" []) f_House_kind [Str.ofString "self", Str.ofString "path"] = true := by kernel_rfl
theorem dm9 {K : PySem.W.Frag} (hs : He.SaysD fa fn K) : ∃ fd, MDefOk K (He.ma K (He.ga K (Str.ofString "House")) (Str.ofString "kind")) f_House_kind fd :=
  mdefN hs 54 (d := dM "House" "kind" 57 9 "House.kind" []) rfl _ mm9 rfl rfl rfl fun _ _ _ _ _ _ us hl => match us, hl with
    | [_, _], _ => rfl
theorem mm10 : mdefB (dM "House" "read" 57 10 "House.read" []) f_House_read [Str.ofString "self", Str.ofString "path"] = true := by kernel_rfl
theorem dm10 {K : PySem.W.Frag} (hs : He.SaysD fa fn K) : ∃ fd, MDefOk K (He.ma K (He.ga K (Str.ofString "House")) (Str.ofString "read")) f_House_read fd :=
  mdefN hs 55 (d := dM "House" "read" 57 10 "House.read" []) rfl _ mm10 rfl rfl rfl fun _ _ _ _ _ _ us hl => match us, hl with
    | [_, _], _ => rfl
theorem mm11 : mdefB (dM "House" "listed" 57 11 "House.listed" []) f_House_listed [Str.ofString "self", Str.ofString "path"] = true := by kernel_rfl
theorem dm11 {K : PySem.W.Frag} (hs : He.SaysD fa fn K) : ∃ fd, MDefOk K (He.ma K (He.ga K (Str.ofString "House")) (Str.ofString "listed")) f_House_listed fd :=
  mdefN hs 56 (d := dM "House" "listed" 57 11 "House.listed" []) rfl _ mm11 rfl rfl rfl fun _ _ _ _ _ _ us hl => match us, hl with
    | [_, _], _ => rfl
theorem mm12 : mdefB (dM "House" "tied" 57 12 "House.tied" []) f_House_tied [Str.ofString "self", Str.ofString "path"] = true := by kernel_rfl
theorem dm12 {K : PySem.W.Frag} (hs : He.SaysD fa fn K) : ∃ fd, MDefOk K (He.ma K (He.ga K (Str.ofString "House")) (Str.ofString "tied")) f_House_tied fd :=
  mdefN hs 57 (d := dM "House" "tied" 57 12 "House.tied" []) rfl _ mm12 rfl rfl rfl fun _ _ _ _ _ _ us hl => match us, hl with
    | [_, _], _ => rfl
theorem mm13 : mdefB (dM "House" "tree" 57 13 "House.tree" []) f_House_tree [Str.ofString "self"] = true := by kernel_rfl
theorem dm13 {K : PySem.W.Frag} (hs : He.SaysD fa fn K) : ∃ fd, MDefOk K (He.ma K (He.ga K (Str.ofString "House")) (Str.ofString "tree")) f_House_tree fd :=
  mdefN hs 58 (d := dM "House" "tree" 57 13 "House.tree" []) rfl _ mm13 rfl rfl rfl fun _ _ _ _ _ _ us hl => match us, hl with
    | [_], _ => rfl
theorem mm14 : mdefB (dM "House" "twin" 57 14 "House.twin" []) f_House_twin [Str.ofString "self"] = true := by kernel_rfl
theorem dm14 {K : PySem.W.Frag} (hs : He.SaysD fa fn K) : ∃ fd, MDefOk K (He.ma K (He.ga K (Str.ofString "House")) (Str.ofString "twin")) f_House_twin fd :=
  mdefN hs 59 (d := dM "House" "twin" 57 14 "House.twin" []) rfl _ mm14 rfl rfl rfl fun _ _ _ _ _ _ us hl => match us, hl with
    | [_], _ => rfl
theorem mm15 : mdefB (dM "House" "__len__" 57 15 "House.__len__" []) f_House_len [Str.ofString "self"] = true := by kernel_rfl
theorem dm15 {K : PySem.W.Frag} (hs : He.SaysD fa fn K) : ∃ fd, MDefOk K (He.ma K (He.ga K (Str.ofString "House")) (Str.ofString "__len__")) f_House_len fd :=
  mdefN hs 60 (d := dM "House" "__len__" 57 15 "House.__len__" []) rfl _ mm15 rfl rfl rfl fun _ _ _ _ _ _ us hl => match us, hl with
    | [_], _ => rfl
theorem mtOk {K : PySem.W.Frag} (hs : He.SaysD fa fn K) : ∀ p ∈ clT, ∀ q ∈ p.2.1, ∃ fd, MDefOk K (He.ma K (He.ga K p.1) q.1) q.2 fd := by
  intro p hp q hq
  simp only [clT, List.mem_cons, List.not_mem_nil, or_false] at hp
  rcases hp with rfl
  · simp only [List.mem_cons, List.not_mem_nil, or_false] at hq
    rcases hq with rfl | rfl | rfl | rfl | rfl | rfl | rfl | rfl | rfl | rfl | rfl | rfl | rfl | rfl | rfl | rfl
    · exact dm0 hs
    · exact dm1 hs
    · exact dm2 hs
    · exact dm3 hs
    · exact dm4 hs
    · exact dm5 hs
    · exact dm6 hs
    · exact dm7 hs
    · exact dm8 hs
    · exact dm9 hs
    · exact dm10 hs
    · exact dm11 hs
    · exact dm12 hs
    · exact dm13 hs
    · exact dm14 hs
    · exact dm15 hs
theorem fnOk {K : PySem.W.Frag} (hs : He.SaysD fa fn K) : ∀ p ∈ fnT, ∃ fd, PySem.W.keepIn K (.ref (He.ga K p.1)) = true ∧ DefOk K (He.ga K p.1) p.2 fd := by
  intro p hp
  simp only [fnT, List.mem_cons, List.not_mem_nil, or_false] at hp
  rcases hp with rfl | rfl | rfl | rfl | rfl | rfl | rfl | rfl | rfl | rfl | rfl | rfl | rfl | rfl | rfl | rfl | rfl | rfl | rfl | rfl | rfl | rfl | rfl | rfl | rfl | rfl | rfl | rfl | rfl | rfl | rfl | rfl | rfl | rfl | rfl | rfl | rfl | rfl | rfl | rfl | rfl | rfl | rfl | rfl
  · exact d0 hs
  · exact d1 hs
  · exact d2 hs
  · exact d3 hs
  · exact d4 hs
  · exact d5 hs
  · exact d6 hs
  · exact d7 hs
  · exact d8 hs
  · exact d9 hs
  · exact d10 hs
  · exact d11 hs
  · exact d12 hs
  · exact d13 hs
  · exact d14 hs
  · exact d15 hs
  · exact d16 hs
  · exact d17 hs
  · exact d18 hs
  · exact d19 hs
  · exact d20 hs
  · exact d21 hs
  · exact d22 hs
  · exact d23 hs
  · exact d24 hs
  · exact d25 hs
  · exact d26 hs
  · exact d27 hs
  · exact d28 hs
  · exact d29 hs
  · exact d30 hs
  · exact d31 hs
  · exact d32 hs
  · exact d33 hs
  · exact d34 hs
  · exact d35 hs
  · exact d36 hs
  · exact d37 hs
  · exact d39 hs
  · exact d40 hs
  · exact d41 hs
  · exact d42 hs
  · exact d43 hs
  · exact d44 hs
end Lt
open PySem PySem.W PySem.Calls PyProof.Rows Lt
theorem PySem.Challenge.cw_laidtrees_k13_house_refused_holds : PySem.Challenge.rw_laidtrees_k13_house_refused.Holds := by
  w_on; o_law
  refine HandSHeadRun.head_any (r := Lt.Rw) (q := PySem.W.view Lt.Rw.prog [72]) (H := Lt.hk) (ob := Lt.ob) (M := 40000) (loose := Lt.looseN) (d := HandSHeadRun.topDef Lt.Rw.prog 72) (kwd := []) Lt.ob_eq
    (by kernel_rfl) (fun s => by kernel_rfl) Lt.run (by kernel_rfl) (by kernel_rfl) (by kernel_rfl) (by rfl) (by first | assumption | decide +kernel) (by decide +kernel) ⟨rfl, rfl, rfl, rfl, rfl, by decide +kernel⟩ ?hw ?hc
  case hw => w_witness2
  case hc =>
    exact Lt.law_walk2 (tn := Lt.tupT) (xb := Lt.xB) (l := PySem.Challenge.rw_laidtrees_k13_house_refused) (m := 63) (n := Lt.depth) (F := Lt.f_law) (x := "_law_script") (P := Lt.P) (Gf := Lt.gfOf Lt.fnT Lt.excN Lt.tupT Lt.clT) rfl (by decide) (by kernel_rfl) ⟨rfl, by decide, by decide⟩ (by decide)
      (fun K mg h hs X ns xb w => Lt.progOk hs X ns (Lt.fnOk hs) (by decide) (by decide) (Lt.mtOk hs) (fun _ => Lt.wh_of X ns xb (Lt.dW hs))) (by rfl) rfl rfl (fun _ _ => rfl) (fun K w => ⟨by first | exact .inl rfl | exact .inr ⟨rfl, by decide⟩, by first | exact .inl rfl | exact .inr ⟨rfl, by decide⟩⟩) Lt.law_pure
