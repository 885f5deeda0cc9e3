import PyProof.Rows.All
import PyProof.ReprReads
import PyProof.P3Statements
import PyProof.EqLayable
import Wide.All
import OpenK.AllK
import Wide.FinOn
import HandS.ForMost
import HandS.ForExc
import HandS.Wide
import HandS.WideBits
import HandS.Gcd
import HandS.HeadWalk
import PyProof.ReprRoads
import HandS.TupMul
import HandS.RaiseMore
import HandS.Deep
import HandS.TupAny
import HandS.IsInst
import HandS.More
import HandS.SortInts
import HandS.Comp
import HandS.ExcInit
import HandS.ExcField
import HandS.Codes
import HandS.TryMany
import HandS.Lambda
import HandS.Exc
import HandS.TryOnly
import HandS.Iter
import HandS.Zip
import HandS.Conv
import KE.GoesEnum
import KE.GoesZip
import HandS.Style
import HandS.Defaults
import HandS.HeadHook4
import HandS.Call
import PyProof.ReprBulk
import PyProof.TableCode
import HandS.Words
import HandS.Head0
import HandS.Head1
import HandS.Head2
import HandS.Head3
import HandS.HeadEnd
import HandS.HeadHook1
import HandS.HeadHook2
import PySem.Challenge.RW_hedgepapers_k12_trees
section
set_option linter.all false
set_option maxRecDepth 10000
namespace Ev
open PySem

abbrev Ky := Sum Int Str

/-- plain data, as a def of the text hands it on -/
inductive D where
  | non
  | bl (b : Bool)
  | int (i : Int)
  | str (x : Str)
  | tup (xs : List D)
  | lst (xs : List D)
  | scr (ns : List Int)
  | dct (ks : List Ky) (xs : List D)
  | obj (c : Str) (fs : List Str) (xs : List D)
  | fn (f : Str)
  | clo (l : Nat)
  | mu (k : Nat)
  deriving Inhabited

/-- a shared object that may change -/
inductive MO where
  | lst (xs : List D)
  | dct (ks : List Ky) (xs : List D)
  | fr (d : D)
  | env (is : List Nat) (xs : List D)
  deriving Inhabited
abbrev Sto := List MO

/-- an exception: its class, its fields -/
structure Ex where
  c : Str
  fs : List Str
  xs : List D

inductive R (α : Type) where
  | ok (a : α) (s : Sto)
  | exc (x : Ex) (s : Sto)
  | no
abbrev M (α : Type) := Sto → R α
def ret {α : Type} (a : α) : M α := fun s => .ok a s
def no {α : Type} : M α := fun _ => .no
def thr {α : Type} (x : Ex) : M α := fun s => .exc x s
def bnd {α β : Type} (m : M α) (f : α → M β) : M β := fun s => match m s with
  | .ok a s' => f a s'
  | .exc x s' => .exc x s'
  | .no => .no
def opt {α : Type} (o : Option α) : M α := match o with
  | some a => ret a
  | none => no
/-- an exception is no end here -/
def nox {α : Type} (m : M α) : M α := fun s => match m s with
  | .ok a s' => .ok a s'
  | _ => .no
@[simp] theorem bnd_ret {α β : Type} (a : α) (f : α → M β) : bnd (ret a) f = f a := rfl
@[simp] theorem bnd_no {α β : Type} (f : α → M β) : bnd (no : M α) f = no := rfl
@[simp] theorem bnd_thr {α β : Type} (x : Ex) (f : α → M β) : bnd (thr x : M α) f = thr x := rfl
theorem bnd_bnd {α β γ : Type} (m : M α) (f : α → M β) (g : β → M γ) : bnd (bnd m f) g = bnd m fun a => bnd (f a) g := by
  funext s
  unfold bnd
  cases m s <;> rfl
theorem bnd_ok {α β : Type} {m : M α} {f : α → M β} {a : α} {s s' : Sto} (h : m s = .ok a s') : bnd m f s = f a s' := by
  unfold bnd
  rw [h]
@[simp] theorem ret_app {α : Type} (a : α) (s : Sto) : ret a s = .ok a s := rfl

/-! ### data -/
def notMut : D → Bool
  | .mu _ => false
  | _ => true
def pureA (xs : List D) : Bool := xs.all notMut
mutual
def toPy : D → Option PyData
  | .non => some .none
  | .bl b => some (.bool b)
  | .int i => some (.int i)
  | .str x => some (.str x)
  | .tup xs => (toPys xs).map .tuple
  | .lst xs => (toPys xs).map .list
  | _ => none
def toPys : List D → Option (List PyData)
  | [] => some []
  | x :: xs => match toPy x with
    | some d => match toPys xs with
      | some ds => some (d :: ds)
      | none => none
    | none => none
end
mutual
/-- how much text its repr is at most, in pieces of 600 signs -/
def wt : D → Nat
  | .str x => x.length + 1
  | .tup xs => wts xs + 1
  | .lst xs => wts xs + 1
  | _ => 1
def wts : List D → Nat
  | [] => 0
  | x :: xs => wt x + wts xs
end
/-- a bound of the ints' size that all rules take -/
def szI (i : Int) : Bool := decide (i.natAbs.log2 < 9000)
def keyD : D → Option Ky
  | .int i => some (.inl i)
  | .str x => some (.inr x)
  | _ => none
def getK : List Ky → List D → Ky → Option D
  | k :: ks, x :: xs, y => if k = y then some x else getK ks xs y
  | _, _, _ => none
def putK : List Ky → List D → Ky → D → List Ky × List D
  | k :: ks, x :: xs, y, v => if k = y then (k :: ks, v :: xs) else ((k :: (putK ks xs y v).1), (x :: (putK ks xs y v).2))
  | _, _, y, v => ([y], [v])
def lkF : List Str → List D → Str → Option D
  | k :: ks, x :: xs, y => if k = y then some x else lkF ks xs y
  | _, _, _ => none
def ixN (n : Nat) (i : Int) : Option Nat := if 0 ≤ i then (if i < n then some i.toNat else none) else if -(n : Int) ≤ i then some (i + n).toNat else none
def atI (xs : List D) (i : Int) : Option D := match ixN xs.length i with
  | some j => xs[j]?
  | none => none
def sIx (n d : Nat) : Option Int → Nat
  | none => d
  | some i => if i < 0 then (i + n).toNat else min i.toNat n
def cutD (xs : List D) (lo hi : Option Int) : List D := (xs.drop (sIx xs.length 0 lo)).take (sIx xs.length xs.length hi - sIx xs.length 0 lo)
def eqD (a b : D) : Option Bool := match toPy a, toPy b with
  | some p, some q => if SeqAt.shaped p && SeqAt.shaped q then some (PyData.eqv p q) else none
  | _, _ => none
def strS : D → Option Str
  | .str x => some x
  | _ => none
/-- ==, texts at once -/
def eqS (a b : D) : Option Bool := match strS a, strS b with
  | some x, some y => some (decide (x = y))
  | _, _ => eqD a b
/-- what an object of the store holds at the moment -/
def thD : D → Sto → D
  | .mu k, s => match s[k]? with
    | some (.lst xs) => .lst xs
    | some (.dct ks xs) => .dct ks xs
    | some (.fr d) => d
    | _ => .mu k
  | d, _ => d
/-- x in a row of data -/
def inD (x : D) (ys : List D) : Option Bool := match toPy x, toPys ys with
  | some d, some ds => if SeqAt.shaped d && SeqAt.shaped (.list ds) && SeqAt.shaped (.tuple ds) then some (ds.any fun z => PyData.eqv z d) else none
  | _, _ => none
def conD (x y : D) : Option Bool := match y with
  | .tup ys => inD x ys
  | .lst ys => inD x ys
  | .dct ks ys => match keyD x with
    | some k => some (getK ks ys k).isSome
    | none => none
  | _ => none
def truO : D → Option Bool
  | .non => some false
  | .bl b => some b
  | .int i => some (i != 0)
  | .str x => if decide (x.length ≤ 1000000) then some ((x.length : Int) != 0) else none
  | .tup xs => some (!xs.isEmpty)
  | .lst xs => some (!xs.isEmpty)
  | _ => none
def truD (d : D) (s : Sto) : Option Bool := truO (thD d s)
/-- the items that a loop takes -/
def itemsO : D → Option (List D)
  | .tup xs => some xs
  | .lst xs => some xs
  | .scr ns => some (ns.map .int)
  | _ => none
def itemsD (d : D) (s : Sto) : Option (List D) := itemsO (thD d s)
/-- a new object: changing, or plain from now on -/
def alloc (m : Bool) (o : MO) : M D := fun s => match m with
  | true => .ok (.mu s.length) (s ++ [o])
  | false => match o with
    | .lst xs => .ok (.lst xs) s
    | .dct ks xs => .ok (.dct ks xs) s
    | .fr _ => .no
    | .env _ _ => .no
/-- a changing object stays as it is from now on -/
def frzD (d : D) : M D := fun s => match d with
  | .mu k => (match s[k]? with
    | some (.lst xs) => .ok (.lst xs) (s.set k (.fr (.lst xs)))
    | some (.dct ks xs) => .ok (.dct ks xs) (s.set k (.fr (.dct ks xs)))
    | some (.fr d) => .ok d s
    | _ => .no)
  | d => .ok d s
def frzDs : List D → M (List D)
  | [] => ret []
  | d :: ds => bnd (frzD d) fun x => bnd (frzDs ds) fun xs => ret (x :: xs)

/-! ### operators -/
def mulOk (i j : Int) : Bool := szI i && szI j
def opD (o : Option D) : M D := fun s => match o with
  | some r => .ok r s
  | none => .no
def binO (op : Operator) (a b : D) : Option D := match op, a, b with
  | .Add, .int i, .int j => some (.int (i + j))
  | .Sub, .int i, .int j => some (.int (i - j))
  | .Mult, .int i, .int j => if mulOk i j then some (.int (i * j)) else none
  | .FloorDiv, .int i, .int j => if decide (j ≠ 0) && szI j then some (.int (i.fdiv j)) else none
  | .Mod, .int i, .int j => if decide (0 < j) then some (.int (i % j)) else none
  | .Pow, .int i, .int j => if decide (0 ≤ j) && decide (j ≤ 1000000) && decide (i.natAbs < 2 ^ 64) then some (.int (i ^ j.toNat)) else none
  | .Add, .tup xs, .tup ys => if decide (xs.length + ys.length ≤ 1000000) then some (.tup (xs ++ ys)) else none
  | .Add, .lst xs, .lst ys => if decide (xs.length + ys.length ≤ 1000000) then some (.lst (xs ++ ys)) else none
  | .Add, .str x, .str y => if decide (x.length + y.length ≤ 1000000) then some (.str (x ++ y)) else none
  | .Mult, .tup xs, .int k => if decide (0 ≤ k) && decide (k ≤ 1000000) && decide (xs.length * k.toNat ≤ 1000000) then some (.tup (List.replicate k.toNat xs).flatten) else none
  | .Mult, .lst xs, .int k => if decide (0 ≤ k) && decide (k ≤ 1000000) && decide (xs.length * k.toNat ≤ 1000000) then some (.lst (List.replicate k.toNat xs).flatten) else none
  | _, _, _ => none
def binD (op : Operator) (a b : D) : M D := fun s => opD (binO op (thD a s) (thD b s)) s
def isNon : D → Bool
  | .non => true
  | _ => false
def isBl (c : Bool) : D → Bool
  | .bl b => b == c
  | _ => false
def opB (o : Option Bool) : M Bool := fun s => match o with
  | some r => .ok r s
  | none => .no
def ltI (op : CmpOp) (i j : Int) : Option Bool := match op with
  | .Lt => some (decide (i < j))
  | .LtE => some (decide (i ≤ j))
  | .Gt => some (decide (j < i))
  | .GtE => some (decide (j ≤ i))
  | _ => none
def cmpO (op : CmpOp) (a b : D) : Option Bool := match op with
  | .Eq => eqS a b
  | .NotEq => (eqS a b).map (!·)
  | .Is => (match b with
    | .non => some (isNon a)
    | .bl c => some (isBl c a)
    | _ => none)
  | .IsNot => (match b with
    | .non => some (!isNon a)
    | .bl c => some (!isBl c a)
    | _ => none)
  | .In => conD a b
  | .NotIn => (conD a b).map (!·)
  | op => (match a, b with
    | .int i, .int j => ltI op i j
    | _, _ => none)
def cmpD (op : CmpOp) (a b : D) : M Bool := fun s => opB (cmpO op (thD a s) (thD b s)) s
def getO (a b : D) : Option D := match a with
  | .tup xs => (match b with
    | .int i => atI xs i
    | _ => none)
  | .lst xs => (match b with
    | .int i => atI xs i
    | _ => none)
  | .dct ks xs => (match keyD b with
    | some k => getK ks xs k
    | none => none)
  | _ => none
def getD (a b : D) : M D := fun s => opD (getO (thD a s) b) s
def setD (a b v : D) : M Unit := match a with
  | .mu m => bnd (frzD v) fun v => fun s => (match s[m]? with
    | some (.lst xs) => (match b with
      | .int i => (match ixN xs.length i with
        | some j => .ok () (s.set m (.lst (xs.set j v)))
        | none => .no)
      | _ => .no)
    | some (.dct ks xs) => (match keyD b with
      | some k => if decide (ks.length < 1000000) then .ok () (s.set m (.dct (putK ks xs k v).1 (putK ks xs k v).2)) else .no
      | none => .no)
    | _ => .no)
  | _ => no
def optI : List D → Option (Option Int)
  | [] => some none
  | [.int i] => some (some i)
  | _ => none
def optB {α β : Type} (o : Option α) (f : α → M β) : M β := match o with
  | some a => f a
  | none => no
def cutO (m : Bool) (a : D) (lo hi : Option Int) : M D := fun s => match thD a s with
  | .tup xs => .ok (.tup (cutD xs lo hi)) s
  | .lst xs => alloc m (.lst (cutD xs lo hi)) s
  | _ => .no
def fldD (a : D) (f : Str) : M D := match a with
  | .obj _ fs xs => opt (lkF fs xs f)
  | _ => no
/-- a class that is asked for -/
inductive Kd where
  | ty (n : String)
  | own (c : Str)
def tyNs : List String := ["bool", "int", "str", "tuple", "list", "dict"]
def isiB : D → String → Option Bool
  | .non, _ => some false
  | .bl _, t => some (t == "bool" || t == "int")
  | .int _, t => some (t == "int")
  | .str _, t => some (t == "str")
  | .tup _, t => some (t == "tuple")
  | .lst _, t => some (t == "list")
  | .dct _ _, t => some (t == "dict")
  | .obj _ _ _, _ => some false
  | _, _ => none
/-- isinstance of one class: a built-in type, or an own one, by a table -/
def isiD (isa : Str → Str → Option Bool) (d : D) : Kd → Option Bool
  | .ty n => if n ∈ tyNs then isiB d n else none
  | .own t => match d with
    | .obj c _ _ => isa c t
    | d => match isiB d "" with
      | some _ => if (isa t t).isSome then some false else none
      | none => none
def isiAny (isa : Str → Str → Option Bool) (d : D) : List Kd → Option Bool
  | [] => some false
  | t :: ts => match isiD isa d t with
    | some true => some true
    | some false => isiAny isa d ts
    | none => none
def intsOf : List D → Option (List Int)
  | [] => some []
  | .int i :: r => (intsOf r).map (i :: ·)
  | _ => none
def blsOf : List D → Option (List Bool)
  | [] => some []
  | .bl i :: r => (blsOf r).map (i :: ·)
  | _ => none
def insI (x : Int) : List Int → List Int
  | [] => [x]
  | y :: ys => if x ≤ y then x :: y :: ys else y :: insI x ys
def sortI (xs : List Int) : List Int := xs.foldr insI []
/-- built-in functions, by their arguments -/
inductive Bf where
  | len | repr | int | abs | max | gcd | str | tuple | all | any | sum
  deriving DecidableEq
inductive Bm where
  | list | sorted | dict
  deriving DecidableEq
inductive Me where
  | append | insert | pop | bits
  deriving DecidableEq
mutual
/-- what repr reads: an empty dict too -/
def toPyX : D → Option PyData
  | .tup xs => (toPyXs xs).map .tuple
  | .lst xs => (toPyXs xs).map .list
  | .dct [] [] => some (.dict [])
  | d => toPy d
def toPyXs : List D → Option (List PyData)
  | [] => some []
  | x :: xs => match toPyX x with
    | some d => match toPyXs xs with
      | some ds => some (d :: ds)
      | none => none
    | none => none
end
mutual
def noLst : D → Bool
  | .tup xs => noLsts xs
  | .lst _ => false
  | _ => true
def noLsts : List D → Bool
  | [] => true
  | x :: xs => noLst x && noLsts xs
end
def reprD (d : D) : Option Str := match toPyX d with
  | some p => if decide (p.shown.length ≤ 1000000) && p.showable && decide (p.depth ≤ 64) && (!p.hasDict || noLst d) then some p.shown else none
  | none => none
def biO (b : Bf) (xs : List D) : Option D := match b with
  | .len => (match xs with
    | [.str x] => if decide (x.length ≤ 1000000) then some (.int x.length) else none
    | [.dct ks _] => some (.int ks.length)
    | [d] => (itemsO d).map fun ys => .int ys.length
    | _ => none)
  | .repr => (match xs with
    | [d] => (reprD d).map .str
    | _ => none)
  | .int => (match xs with
    | [.int i] => some (.int i)
    | _ => none)
  | .abs => (match xs with
    | [.int i] => some (.int (if i < 0 then -i else i))
    | _ => none)
  | .max => (match xs with
    | [.int i, .int j] => some (.int (if j > i then j else i))
    | _ => none)
  | .gcd => (match xs with
    | [.int i, .int j] => some (.int (Nat.gcd i.natAbs j.natAbs : Nat))
    | _ => none)
  | .str => (match xs with
    | [.int i] => if decide (i.natAbs.log2 < 1920) then some (.str (toString i)) else none
    | _ => none)
  | .tuple => (match xs with
    | [d] => (itemsO d).map .tup
    | _ => none)
  | .all => (match xs with
    | [.lst ys] => (blsOf ys).map fun bs => .bl (bs.all id)
    | _ => none)
  | .any => (match xs with
    | [.lst ys] => (blsOf ys).map fun bs => .bl (bs.any id)
    | _ => none)
  | .sum => (match xs with
    | [.lst ys] => (intsOf ys).map fun bs => .int bs.sum
    | _ => none)
def biD (b : Bf) (xs : List D) : M D := fun s => opD (biO b (xs.map (thD · s))) s
/-- built-in functions that make a list or a dict -/
def mkO (b : Bm) (xs : List D) : Option MO := match b with
  | .list => (match xs with
    | [d] => (itemsO d).map .lst
    | _ => none)
  | .sorted => (match xs with
    | [.lst ys] => (intsOf ys).map fun is => .lst ((sortI is).map .int)
    | _ => none)
  | .dict => (match xs with
    | [.dct ks ys] => some (.dct ks ys)
    | _ => none)
def mkD (b : Bm) (m : Bool) (xs : List D) : M D := fun s => match mkO b (xs.map (thD · s)) with
  | some o => alloc m o s
  | none => .no
/-- the receiver is of the method's type -/
def metB (f : Me) (d : D) : Bool := match f, d with
  | .bits, .int _ => true
  | .bits, _ => false
  | _, .lst _ => true
  | _, _ => false
/-- methods of built-in types -/
def metD (a : D) (f : Me) (xs : List D) : M D := match f with
  | .append => (match a, xs with
    | .mu k, [v] => bnd (frzD v) fun v => fun s => (match s[k]? with
      | some (.lst ys) => if decide (ys.length < 1000000) then .ok .non (s.set k (.lst (ys ++ [v]))) else .no
      | _ => .no)
    | _, _ => no)
  | .insert => (match a, xs with
    | .mu k, [.int i, v] => bnd (frzD v) fun v => fun s => if decide (i = 0) then (match s[k]? with
      | some (.lst ys) => if decide (ys.length < 1000000) then .ok .non (s.set k (.lst (v :: ys))) else .no
      | _ => .no) else .no
    | _, _ => no)
  | .pop => (match a, xs with
    | .mu k, [.int i] => fun s => (match s[k]? with
      | some (.lst ys) => (match ixN ys.length i with
        | some j => (match ys[j]? with
          | some v => .ok v (s.set k (.lst (ys.eraseIdx j)))
          | none => .no)
        | none => .no)
      | _ => .no)
    | _, _ => no)
  | .bits => (match a, xs with
    | .int i, [] => ret (.int (if i = 0 then 0 else i.natAbs.log2 + 1 : Nat))
    | _, _ => no)

/-! ### the core -/
inductive Cst where
  | non | bl (b : Bool) | int (i : Int) | str (x : Str)
  deriving DecidableEq
def Cst.d : Cst → D
  | .non => .non
  | .bl b => .bl b
  | .int i => .int i
  | .str x => .str x
mutual
inductive E where
  | c (k : Cst)
  | v (i : Nat)
  | g (x : Str)
  | tup (es : Es)
  | lst (m : Bool) (es : Es)
  | dct (m : Bool) (ks : List Ky) (es : Es)
  | bin (op : Operator) (a b : E)
  | neg (a : E)
  | cmp (op : CmpOp) (a b : E)
  | chain (op op' : CmpOp) (a b c : E)
  | andv (a b : E)
  | orv (a b : E)
  | notv (a : E)
  | ife (t : T) (a b : E)
  | ix (a b : E)
  | sl (m : Bool) (a : E) (lo hi : Es)
  | fld (a : E) (f : Str)
  | call (f : Str) (es : Es)
  | mk (c : Str) (es : Es)
  | bi (b : Bf) (es : Es)
  | mkb (b : Bm) (m : Bool) (es : Es)
  | lrg (m : Bool) (es : Es)
  | met (a : E) (f : Me) (es : Es)
  | cal (i : Nat) (es : Es)
  | isi (a : E) (ts : List Kd)
  | comp (m : Bool) (own : List (Str × Nat)) (tg : Tg) (it : It) (cs : Ts) (elt : E)
  | callC (f : Str) (es : Es) (is : List Nat)
  | xf (f : Str)
inductive Es where
  | nil
  | cons (e : E) (r : Es)
inductive T where
  | val (e : E)
  | cmp (op : CmpOp) (a b : E)
  | chain (op op' : CmpOp) (a b c : E)
  | and (a b : T)
  | or (a b : T)
  | not (a : T)
inductive Ts where
  | nil
  | cons (t : T) (r : Ts)
inductive It where
  | seq (e : E)
  | rng (es : Es)
  | enum (e : E)
  | zip (es : Es)
inductive Tg where
  | name (i : Nat)
  | tup (ts : Tgs)
  | ix (a b : E)
inductive Tgs where
  | nil
  | cons (t : Tg) (r : Tgs)
end
mutual
inductive S where
  | asg (t : Tg) (e : E)
  | par (is : List Nat) (es : Es)
  | lamN (i l : Nat) (e : E)
  | lamA (i l : Nat) (e : E)
  | aug (i : Nat) (op : Operator) (e : E)
  | exp (e : E)
  | rtn (e : E)
  | rtnN
  | ite (t : T) (a b : Ss)
  | for_ (t : Tg) (it : It) (b : Ss)
  | whl (t : T) (b : Ss)
  | rse (c : Str) (es : Es)
  | try_ (i : Nat) (b : Ss) (hs : Hs)
  | pass | brk | cont
inductive Ss where
  | nil
  | cons (s : S) (r : Ss)
inductive Hs where
  | nil
  | cons (c : Str) (e : E) (r : Hs)
end

/-! ### the run -/
abbrev En := List (Option D)
structure Orc where
  fn : Str → List D → M D
  clo : Nat → M D
/-- what a body reads: module constants, classes, calls, the frame's level, the exception at hand -/
structure Cx' where
  con : Str → Option D
  isa : Str → Str → Option Bool
  exs : Str → Option (List Str)
  orc : Orc
  wf : Nat
  cur : Option Ex
def zipD : List (List D) → List (List D)
  | [] => []
  | [xs] => xs.map ([·])
  | xs :: r => (xs.zip (zipD r)).map fun p => p.1 :: p.2
def smI (i : Int) : Bool := decide (-1000000 ≤ i) && decide (i ≤ 1000000)
def rngD : List D → Option (List D)
  | [.int n] => if smI n then some ((List.range n.toNat).map fun (i : Nat) => D.int i) else none
  | [.int a, .int b] => if smI a && smI b then some ((List.range (b - a).toNat).map fun (i : Nat) => D.int (a + i)) else none
  | _ => none
def itemsOs : List D → Option (List (List D))
  | [] => some []
  | x :: xs => match itemsO x with
    | some a => (itemsOs xs).map (a :: ·)
    | none => none
def consO {α : Type} : Option α → List α → List α
  | some a, r => a :: r
  | none, r => r
def loopC {α : Type} (f : D → M (Option α)) : List D → M (List α)
  | [] => ret []
  | x :: xs => bnd (f x) fun o => bnd (loopC f xs) fun r => ret (consO o r)
inductive Fl where
  | nx (e : En) | rt (d : D) | bk (e : En) | ct (e : En)
def loopF (f : D → En → M Fl) : List D → En → M Fl
  | [], e => ret (.nx e)
  | x :: xs, e => bnd (f x e) fun o => match o with
    | .nx e' => loopF f xs e'
    | .ct e' => loopF f xs e'
    | .bk e' => ret (.nx e')
    | .rt d => ret (.rt d)
def loopW (t : En → M Bool) (f : En → M Fl) : Nat → En → M Fl
  | 0, _ => no
  | n + 1, e => bnd (t e) fun b => match b with
    | false => ret (.nx e)
    | true => bnd (f e) fun o => match o with
      | .nx e' => loopW t f n e'
      | .ct e' => loopW t f n e'
      | .bk e' => ret (.nx e')
      | .rt d => ret (.rt d)
def setE (e : En) (i : Nat) (d : D) : En := e.set i (some d)
def setEs (e : En) : List Nat → List D → Option En
  | [], [] => some e
  | i :: is, d :: ds => setEs (setE e i d) is ds
  | _, _ => none
mutual
def asgP (t : Tg) (d : D) (e : En) : Option En := match t with
  | .name i => some (setE e i d)
  | .tup ts => match d with
    | .tup xs => asgPs ts xs e
    | .lst xs => asgPs ts xs e
    | _ => none
  | _ => none
def asgPs (ts : Tgs) (xs : List D) (e : En) : Option En := match ts, xs with
  | .nil, [] => some e
  | .cons t r, x :: xs => match asgP t x e with
    | some e' => asgPs r xs e'
    | none => none
  | _, _ => none
end
/-- a plain assignment's target -/
def asgA (t : Tg) (ev : E → En → M D) (d : D) (e : En) : M En := match t with
  | .name i => ret (setE e i d)
  | .ix a b => bnd (ev a e) fun o => bnd (ev b e) fun i => bnd (setD o i d) fun _ => ret e
  | .tup ts => bnd (frzD d) fun d => opt (asgP (.tup ts) d e)
/-- the captured slots' values -/
def capD (e : En) : List Nat → Option (List D)
  | [] => some []
  | i :: r => match e[i]? with
    | some (some d) => (capD e r).map (d :: ·)
    | _ => none
/-- no closures' frame is told -/
def noEnv (s : Sto) : Bool := s.all fun
  | .env (_ :: _) _ => false
  | _ => true
/-- the frame whose closures are at hand: where it is told, its slots, their values -/
def envS : Sto → Option (Nat × List Nat × List D)
  | [] => none
  | .env (i :: is) xs :: s => if noEnv s then some (0, i :: is, xs) else none
  | _ :: s => (envS s).map fun q => (q.1 + 1, q.2)
/-- slots set -/
def fillE (e : En) : List Nat → List D → En
  | i :: is, d :: ds => fillE (setE e i d) is ds
  | _, _ => e
def blM (m : M D) : M Bool := bnd m fun d => match d with
  | .bl b => ret b
  | _ => no
/-- a changing list is kept aside while it is walked -/
def hidD (d : D) : M (D × Option (Nat × List D)) := fun s => match d with
  | .mu k => (match s[k]? with
    | some (.lst xs) => .ok (.lst xs, some (k, xs)) (s.set k (.env [] []))
    | _ => bnd (frzD (.mu k)) (fun x => ret (x, none)) s)
  | d => .ok (d, none) s
def shwD (h : Option (Nat × List D)) : M Unit := match h with
  | none => ret ()
  | some (k, xs) => fun s => match s[k]? with
    | some (.env [] []) => .ok () (s.set k (.lst xs))
    | _ => .no
section
variable (X : Cx')
mutual
def evE (c : E) (e : En) : M D := match c with
  | .c k => ret k.d
  | .v i => (match e[i]? with
    | some (some d) => ret d
    | _ => no)
  | .g x => opt (X.con x)
  | .tup es => bnd (evEs es e) fun xs => bnd (frzDs xs) fun xs => ret (.tup xs)
  | .lst m es => bnd (evEs es e) fun xs => bnd (frzDs xs) fun xs => alloc m (.lst xs)
  | .dct m ks es => bnd (evEs es e) fun xs => bnd (frzDs xs) fun xs => if decide (ks.length = xs.length) && decide ks.Nodup then alloc m (.dct ks xs) else no
  | .bin op a b => bnd (evE a e) fun x => bnd (evE b e) fun y => binD op x y
  | .neg a => bnd (evE a e) fun x => (match x with
    | .int i => ret (.int (-i))
    | _ => no)
  | .cmp op a b => bnd (evE a e) fun x => bnd (evE b e) fun y => bnd (cmpD op x y) fun r => ret (.bl r)
  | .chain op op' a b c => bnd (evE a e) fun x => bnd (evE b e) fun y => bnd (cmpD op x y) fun r => (match r with
    | false => ret (.bl false)
    | true => bnd (evE c e) fun z => bnd (cmpD op' y z) fun r => ret (.bl r))
  | .andv a b => bnd (blM (evE a e)) fun r => (match r with
    | true => evE b e
    | false => ret (.bl false))
  | .orv a b => bnd (blM (evE a e)) fun r => (match r with
    | true => ret (.bl true)
    | false => evE b e)
  | .notv a => bnd (evE a e) fun x => fun s => (match truD x s with
    | some r => .ok (.bl (!r)) s
    | none => .no)
  | .ife t a b => bnd (evT t e) fun r => (match r with
    | true => evE a e
    | false => evE b e)
  | .ix a b => bnd (evE a e) fun x => bnd (evE b e) fun y => getD x y
  | .sl m a lo hi => bnd (evE a e) fun x => bnd (evEs lo e) fun l => optB (optI l) fun l => bnd (evEs hi e) fun h => optB (optI h) fun h => cutO m x l h
  | .fld a f => bnd (evE a e) fun x => fldD x f
  | .call f es => bnd (evEs es e) fun xs => X.orc.fn f xs
  | .mk c es => bnd (evEs es e) fun xs => X.orc.fn c xs
  | .bi b es => bnd (evEs es e) fun xs => biD b xs
  | .mkb b m es => bnd (evEs es e) fun xs => mkD b m xs
  | .lrg m es => bnd (evEs es e) fun xs => optB (rngD xs) fun ys => alloc m (.lst ys)
  | .met a f es => bnd (evE a e) fun x => fun s => if metB f (thD x s) then bnd (evEs es e) (fun xs => metD x f xs) s else .no
  | .cal i es => (match e[i]? with
    | some (some (.fn f)) => bnd (evEs es e) fun xs => X.orc.fn f xs
    | some (some (.clo l)) => (match es with
      | .nil => X.orc.clo l
      | _ => no)
    | _ => no)
  | .isi a ts => bnd (evE a e) fun x => fun s => opD ((isiAny X.isa (thD x s) ts).map .bl) s
  | .comp m own tg it cs elt => bnd (evItQ it e) fun q => bnd (nox (loopC (fun x => match asgP tg x (own.foldl (fun e p => e.set p.2 none) e) with
      | some e' => bnd (evTs cs e') fun r => (match r with
        | true => bnd (evE elt e') fun d => bnd (frzD d) fun d => ret (some d)
        | false => ret none)
      | none => no) q.1)) fun ys => bnd (shwD q.2) fun _ => if decide (ys.length ≤ 1000000) then alloc m (.lst ys) else no
  | .callC f es is => bnd (evEs es e) fun xs => optB (capD e is) fun ys => bnd (frzDs ys) fun ys => fun s => (match X.orc.fn f xs (s ++ [.env is ys]) with
    | .ok (.bl b) s' => if noEnv (s'.take s.length) then .ok (.bl b) (s'.take s.length) else .no
    | _ => .no)
  | .xf f => (match X.cur with
    | some x => opt (lkF x.fs x.xs f)
    | none => no)
def evEs (c : Es) (e : En) : M (List D) := match c with
  | .nil => ret []
  | .cons a r => bnd (evE a e) fun x => bnd (evEs r e) fun xs => ret (x :: xs)
def evT (c : T) (e : En) : M Bool := match c with
  | .val a => bnd (evE a e) fun x => fun s => (match truD x s with
    | some r => .ok r s
    | none => .no)
  | .cmp op a b => bnd (evE a e) fun x => bnd (evE b e) fun y => cmpD op x y
  | .chain op op' a b c => bnd (evE a e) fun x => bnd (evE b e) fun y => bnd (cmpD op x y) fun r => (match r with
    | false => ret false
    | true => bnd (evE c e) fun z => cmpD op' y z)
  | .and a b => bnd (evT a e) fun r => (match r with
    | true => evT b e
    | false => ret false)
  | .or a b => bnd (evT a e) fun r => (match r with
    | true => ret true
    | false => evT b e)
  | .not a => bnd (evT a e) fun r => ret (!r)
def evTs (c : Ts) (e : En) : M Bool := match c with
  | .nil => ret true
  | .cons t r => bnd (evT t e) fun b => (match b with
    | true => evTs r e
    | false => ret false)
def evIt (c : It) (e : En) : M (List D) := match c with
  | .seq a => bnd (evE a e) fun x => bnd (frzD x) fun x => opt (itemsO x)
  | .rng es => bnd (evEs es e) fun xs => opt (rngD xs)
  | .enum a => bnd (evE a e) fun x => bnd (frzD x) fun x => opt ((itemsO x).map fun xs => (xs.zipIdx).map fun p => .tup [.int p.2, p.1])
  | .zip es => bnd (evEs es e) fun xs => bnd (frzDs xs) fun xs => opt ((itemsOs xs).map fun l => (zipD l).map .tup)
/-- a comprehension's row: a changing list that is enumerated is kept aside -/
def evItQ (c : It) (e : En) : M (List D × Option (Nat × List D)) := match c with
  | .seq a => bnd (bnd (evE a e) fun x => bnd (frzD x) fun x => opt (itemsO x)) fun xs => ret (xs, none)
  | .rng es => bnd (bnd (evEs es e) fun xs => opt (rngD xs)) fun xs => ret (xs, none)
  | .enum a => bnd (evE a e) fun x => bnd (hidD x) fun p => opt ((itemsO p.1).map fun xs => ((xs.zipIdx).map fun p => .tup [.int p.2, p.1], p.2))
  | .zip es => bnd (bnd (evEs es e) fun xs => bnd (frzDs xs) fun xs => opt ((itemsOs xs).map fun l => (zipD l).map .tup)) fun xs => ret (xs, none)
end
mutual
def evS (c : S) (e : En) : M Fl := match c with
  | .asg t x => bnd (evE X x e) fun d => bnd (asgA t (evE X) d e) fun e' => ret (.nx e')
  | .par is es => bnd (evEs X es e) fun xs => (match setEs e is xs with
    | some e' => ret (.nx e')
    | none => no)
  | .lamN i l x => bnd (evE X x e) fun d => bnd (frzD d) fun d => bnd (alloc true (.lst [.tup [.clo l, d]])) fun r => ret (.nx (setE e i r))
  | .lamA i l x => (match e[i]? with
    | some (some o) => fun s => if metB .append (thD o s) then bnd (evE X x e) (fun d => bnd (frzD d) fun d => bnd (metD o .append [.tup [.clo l, d]]) fun _ => ret (.nx e)) s else .no
    | _ => no)
  | .aug i op x => no
  | .exp x => bnd (evE X x e) fun _ => ret (.nx e)
  | .rtn x => bnd (evE X x e) fun d => ret (.rt d)
  | .rtnN => ret (.rt .non)
  | .ite t a b => bnd (evT X t e) fun r => (match r with
    | true => evSs a e
    | false => evSs b e)
  | .for_ t it b => bnd (evIt X it e) fun xs => loopF (fun x e => match asgP t x e with
    | some e' => evSs b e'
    | none => no) xs e
  | .whl t b => loopW (evT X t) (evSs b) X.wf e
  | .rse c es => bnd (evEs X es e) fun xs => bnd (frzDs xs) fun xs => (match X.exs c with
    | some fs => if decide (fs.length = xs.length) then thr ⟨c, fs, xs⟩ else no
    | none => no)
  | .try_ _ b hs => fun s => (match evSs b e s with
    | .ok fl s' => .ok fl s'
    | .exc x s' => if decide (X.exs x.c = some x.fs) then evHs hs x s' else .no
    | .no => .no)
  | .pass => ret (.nx e)
  | .brk => ret (.bk e)
  | .cont => ret (.ct e)
def evSs (c : Ss) (e : En) : M Fl := match c with
  | .nil => ret (.nx e)
  | .cons a r => bnd (evS a e) fun f => (match f with
    | .nx e' => evSs r e'
    | f => ret f)
def evHs (c : Hs) (x : Ex) : M Fl := match c with
  | .nil => thr x
  | .cons c b r => if x.c = c then bnd (evE { X with cur := some x } b []) fun d => ret (.rt d) else evHs r x
end
end
structure Fn where
  np : Nat
  nl : Nat
  dfl : List D := []
  body : Ss
structure Lam where
  nl : Nat
  fv : List Nat
  body : E
/-- a class: what its __init__ sets, in that order -/
structure Cl where
  np : Nat
  dfl : List D := []
  fs : List Str
  es : Es
structure Gl where
  con : Str → Option D
  isa : Str → Str → Option Bool
  cls : Str → Option Cl
  exs : Str → Option (List Str)
  fn : Str → Option Fn
  lam : Nat → Option Lam
  wf : Nat
/-- the end of a call at store length n: what it made is forgotten, unless it is what comes back -/
def leave (n : Nat) (d : D) : M D := fun s => match d with
  | .mu k => if k < n then .ok d (s.take n) else .ok d s
  | .clo _ => .no
  | d => .ok d (s.take n)
def fillA (np : Nat) (dfl xs : List D) : Option (List D) :=
  if xs.length ≤ np ∧ np ≤ xs.length + dfl.length then some (xs ++ dfl.drop (xs.length + dfl.length - np)) else none
def runB (X : Cx') (f : Fn) (xs : List D) : M D := fun s =>
  match evSs X f.body (xs.map some ++ List.replicate (f.nl - xs.length) none) s with
  | .ok (.rt d) s' => leave s.length d s'
  | .ok (.nx _) s' => .ok .non (s'.take s.length)
  | .ok _ _ => .no
  | .exc x s' => .exc x (s'.take s.length)
  | .no => .no
def orcAt (G : Gl) : Nat → Orc
  | 0 => ⟨fun _ _ => no, fun _ => no⟩
  | k + 1 =>
    let X : Cx' := ⟨G.con, G.isa, G.exs, orcAt G k, G.wf, none⟩
    ⟨fun f xs => (match G.fn f with
      | some F => (match fillA F.np F.dfl xs with
        | some ys => runB X F ys
        | none => no)
      | none => (match G.cls f with
        | some C => (match fillA C.np C.dfl xs with
          | some ys => (fun s => match evEs X C.es (none :: ys.map some) s with
            | .ok zs s' => (match frzDs zs s' with
              | .ok zs s' => if decide (C.fs.length = zs.length) then .ok (.obj f C.fs zs) (s'.take s.length) else .no
              | _ => .no)
            | _ => .no)
          | none => no)
        | none => no)),
     fun l => (match G.lam l with
      | some L => (fun s => match envS s with
        | some (j, is, ys) => if decide is.Nodup && L.fv.all (is.contains ·) then (match evE X L.body (fillE (List.replicate L.nl none) is ys) (s.set j (.env [] [])) with
          | .ok d s' => (match s'[j]? with
            | some (.env [] []) => leave s.length d (s'.set j (.env is ys))
            | _ => .no)
          | .exc x s' => (match s'[j]? with
            | some (.env [] []) => .exc x ((s'.set j (.env is ys)).take s.length)
            | _ => .no)
          | .no => .no) else .no
        | none => .no)
      | none => no)⟩
end Ev
end
section
set_option Elab.async false
set_option linter.all false
set_option maxRecDepth 100000
namespace Ev
open PySem PySem.Spec PyProof.Rows L2

/-- what is seen: objects that stay as they are; cells and what they hold -/
structure Vw where
  G : Hp
/-- the frame whose closures are at hand: its cells by slots, its closures, their code -/
class Gh where
  S : Nat → Option Addr
  P : Nat → Addr → HO → Addr → HO → Prop
variable [Gh]
def SubG (G H : Hp) : Prop := ∀ a o, G a = some o → H a = some o
theorem SubG.refl (G : Hp) : SubG G G := fun _ _ h => h
theorem SubG.trans {A B C : Hp} (x : SubG A B) (y : SubG B C) : SubG A C := fun a o h => y a o (x a o h)
theorem rd_sub {G H : Hp} {a : Addr} {u : HO} (s : SubG G H) (h : Rd G a u) : Rd H a u := by
  rcases h with h | ⟨o, h⟩
  · exact .inl (s _ _ h)
  · exact .inr ⟨o, s _ _ h⟩
theorem sqT_sub {K : PySem.W.Frag} {G H : Hp} {a : Addr} {xs : List V} (s : SubG G H) (h : SqT K G a xs) : SqT K H a xs := by
  rcases h with h | h
  · exact .inl (rd_sub s h)
  · exact .inr h
theorem sqL_sub {K : PySem.W.Frag} {G H : Hp} {a : Addr} {xs : List V} (s : SubG G H) (h : SqL K G a xs) : SqL K H a xs := by
  rcases h with h | h
  · exact .inl (rd_sub s h)
  · exact .inr h

/-- a class whose instances are plain -/
structure ClsOk (K : PySem.W.Frag) (C : Addr) (fs : List Str) : Prop where
  cl : Cls K C
  na : ∀ f ∈ fs, NoAttr K C f
  ha : PySem.W.findIn K (.ref C) "__class__" = some (some (.builtin "object.__class__"))
  hn : PySem.W.specialIn K (.builtin "object.__class__") "__get__" = some (some (.builtin "getset_descriptor.__get__"))
  htk : PySem.W.takesIn K (.builtin "object.__class__") = some true
  hm : PySem.W.mroIn K C (.type "object") = some true
  kb : ∀ n ∈ tyNs, PySem.W.kitOne K (.ref C) (.type n) = some false
section
variable (K : PySem.W.Frag) (mg : Str → Option Value)
mutual
/-- the data d stands at v -/
def Rp (W : Vw) : D → V → Prop
  | .non, v => v = .non
  | .bl b, v => v = .bl b
  | .int i, v => v = .int i
  | .str x, v => v = .str x
  | .tup ds, v => ∃ a vs, v = .ref a ∧ SqT K W.G a vs ∧ Rps W ds vs
  | .lst ds, v => ∃ a vs, v = .ref a ∧ W.G a = some (.lst vs) ∧ Rps W ds vs
  | .scr ns, v => ∃ a, v = .ref a ∧ SqL K W.G a (ns.map V.int)
  | .dct ks ds, v => ∃ a vs, v = .ref a ∧ W.G a = some (.dK (ks.zip vs)) ∧ ks.length = ds.length ∧ ks.Nodup ∧ Rps W ds vs
  | .obj c fs ds, v => ∃ a C dx vs, v = .ref a ∧ mg c = some (.ref C) ∧ ClsOk K C fs ∧ W.G a = some (.ins C dx (fs.zip vs)) ∧ fs.length = ds.length ∧ Rps W ds vs
  | .fn f, v => ∃ a, v = .ref a ∧ mg f = some (.ref a) ∧ PySem.W.keepIn K (.ref a) = true
  | .clo l, v => ∃ f o c oc, v = .ref f ∧ Gh.P l f o c oc ∧ W.G f = some o ∧ W.G c = some oc ∧ ∀ i a, Gh.S i = some a → a ≠ f ∧ a ≠ c
  | .mu _, _ => False
def Rps (W : Vw) : List D → List V → Prop
  | [], vs => vs = []
  | d :: ds, vs => ∃ v r, vs = v :: r ∧ Rp W d v ∧ Rps W ds r
end
def Rpa (W : Vw) (μ : List Addr) : D → V → Prop
  | .mu k, v => ∃ a, μ[k]? = some a ∧ v = .ref a
  | d, v => Rp K mg W d v
def Rpas (W : Vw) (μ : List Addr) : List D → List V → Prop
  | [], vs => vs = []
  | d :: ds, vs => ∃ v r, vs = v :: r ∧ Rpa K mg W μ d v ∧ Rpas W μ ds r
end
structure LeW (W W' : Vw) : Prop where
  g : SubG W.G W'.G
theorem LeW.refl (W : Vw) : LeW W W := ⟨SubG.refl _⟩
theorem LeW.trans {A B C : Vw} (x : LeW A B) (y : LeW B C) : LeW A C := ⟨x.g.trans y.g⟩
structure Ex2 (W : Vw) (μ : List Addr) (W' : Vw) (μ' : List Addr) : Prop where
  w : LeW W W'
  m : ∃ r, μ' = μ ++ r
theorem Ex2.refl (W : Vw) (μ : List Addr) : Ex2 W μ W μ := ⟨LeW.refl _, [], by simp⟩
theorem Ex2.trans {A B C : Vw} {a b c : List Addr} (x : Ex2 A a B b) (y : Ex2 B b C c) : Ex2 A a C c := by
  obtain ⟨w1, r1, e1⟩ := x
  obtain ⟨w2, r2, e2⟩ := y
  exact ⟨w1.trans w2, r1 ++ r2, by rw [e2, e1, List.append_assoc]⟩
section
variable {K : PySem.W.Frag} {mg : Str → Option Value}
mutual
theorem Rp.mono {W W' : Vw} (h : LeW W W') : ∀ {d : D} {v : V}, Rp K mg W d v → Rp K mg W' d v
  | .non, _, r => by simp only [Rp] at r ⊢; exact r
  | .bl _, _, r => by simp only [Rp] at r ⊢; exact r
  | .int _, _, r => by simp only [Rp] at r ⊢; exact r
  | .str _, _, r => by simp only [Rp] at r ⊢; exact r
  | .tup ds, _, r => by
    simp only [Rp] at r ⊢
    obtain ⟨a, vs, e, q, r⟩ := r
    exact ⟨a, vs, e, sqT_sub h.g q, Rps.mono h r⟩
  | .lst ds, _, r => by
    simp only [Rp] at r ⊢
    obtain ⟨a, vs, e, q, r⟩ := r
    exact ⟨a, vs, e, h.g _ _ q, Rps.mono h r⟩
  | .scr ns, _, r => by
    simp only [Rp] at r ⊢
    obtain ⟨a, e, q⟩ := r
    exact ⟨a, e, sqL_sub h.g q⟩
  | .dct ks ds, _, r => by
    simp only [Rp] at r ⊢
    obtain ⟨a, vs, e, q, l, n, r⟩ := r
    exact ⟨a, vs, e, h.g _ _ q, l, n, Rps.mono h r⟩
  | .obj c fs ds, _, r => by
    simp only [Rp] at r ⊢
    obtain ⟨a, C, dx, vs, e, m, k, q, l, r⟩ := r
    exact ⟨a, C, dx, vs, e, m, k, h.g _ _ q, l, Rps.mono h r⟩
  | .fn f, _, r => by simp only [Rp] at r ⊢; exact r
  | .clo l, _, r => by
    simp only [Rp] at r ⊢
    obtain ⟨f, o, c, oc, e, p, g, gc, n⟩ := r
    exact ⟨f, o, c, oc, e, p, h.g _ _ g, h.g _ _ gc, n⟩
  | .mu _, _, r => by simp only [Rp] at r
theorem Rps.mono {W W' : Vw} (h : LeW W W') : ∀ {ds : List D} {vs : List V}, Rps K mg W ds vs → Rps K mg W' ds vs
  | [], _, r => by simp only [Rps] at r ⊢; exact r
  | d :: ds, _, r => by
    simp only [Rps] at r ⊢
    obtain ⟨v, q, e, r1, r2⟩ := r
    exact ⟨v, q, e, Rp.mono h r1, Rps.mono h r2⟩
end
theorem Rp.a {W : Vw} {μ : List Addr} {d : D} {v : V} (h : Rp K mg W d v) : Rpa K mg W μ d v := by
  cases d <;> first | exact h | (simp only [Rp] at h)
theorem Rpa.p {W : Vw} {μ : List Addr} {d : D} {v : V} (h : Rpa K mg W μ d v) (n : notMut d = true) : Rp K mg W d v := by
  cases d <;> first | exact h | (simp [notMut] at n)
theorem get_app {μ r : List Addr} {k : Nat} {a : Addr} (h : μ[k]? = some a) : (μ ++ r)[k]? = some a := by
  have l := (List.getElem?_eq_some_iff.mp h).1
  rw [List.getElem?_append_left l]
  exact h
theorem Rpa.mono {W W' : Vw} {μ μ' : List Addr} (x : Ex2 W μ W' μ') {d : D} {v : V} (h : Rpa K mg W μ d v) : Rpa K mg W' μ' d v := by
  obtain ⟨w, r, e⟩ := x
  cases d with
  | mu k =>
    obtain ⟨a, h1, h2⟩ := h
    exact ⟨a, by rw [e]; exact get_app h1, h2⟩
  | _ => exact Rp.mono w h
theorem Rpas.mono {W W' : Vw} {μ μ' : List Addr} (x : Ex2 W μ W' μ') : ∀ {ds : List D} {vs : List V}, Rpas K mg W μ ds vs → Rpas K mg W' μ' ds vs
  | [], _, h => h
  | _ :: _, _, ⟨v, r, e, h1, h2⟩ => ⟨v, r, e, h1.mono x, Rpas.mono x h2⟩
theorem Rps.as {W : Vw} {μ : List Addr} : ∀ {ds : List D} {vs : List V}, Rps K mg W ds vs → Rpas K mg W μ ds vs
  | [], _, h => by simp only [Rps] at h; exact h
  | _ :: _, _, h => by
    simp only [Rps] at h
    obtain ⟨v, r, e, h1, h2⟩ := h
    exact ⟨v, r, e, h1.a, h2.as⟩
theorem Rpas.p {W : Vw} {μ : List Addr} : ∀ {ds : List D} {vs : List V}, Rpas K mg W μ ds vs → pureA ds = true → Rps K mg W ds vs
  | [], _, h, _ => by simp only [Rps]; exact h
  | d :: ds, _, h, n => by
    obtain ⟨v, r, e, h1, h2⟩ := h
    have n' : notMut d = true ∧ pureA ds = true := by simpa [pureA] using n
    simp only [Rps]
    exact ⟨v, r, e, h1.p n'.1, h2.p n'.2⟩
theorem Rps.length {W : Vw} : ∀ {ds : List D} {vs : List V}, Rps K mg W ds vs → ds.length = vs.length
  | [], _, h => by simp only [Rps] at h; subst h; rfl
  | _ :: _, _, h => by
    simp only [Rps] at h
    obtain ⟨v, r, e, _, h2⟩ := h
    rw [e, List.length_cons, List.length_cons, h2.length]
theorem Rpas.length {W : Vw} {μ : List Addr} : ∀ {ds : List D} {vs : List V}, Rpas K mg W μ ds vs → ds.length = vs.length
  | [], vs, h => by
    have h' : vs = [] := h
    subst h'
    rfl
  | _ :: _, _, ⟨v, r, e, _, h2⟩ => by rw [e, List.length_cons, List.length_cons, h2.length]
theorem Rps.get {W : Vw} : ∀ {ds : List D} {vs : List V} {i : Nat} {d : D}, Rps K mg W ds vs → ds[i]? = some d → ∃ v, vs[i]? = some v ∧ Rp K mg W d v
  | [], _, _, _, _, e => by simp at e
  | _ :: _, _, 0, _, h, e => by
    simp only [Rps] at h
    obtain ⟨v, r, e1, h1, _⟩ := h
    simp at e
    subst e e1
    exact ⟨v, rfl, h1⟩
  | _ :: _, _, i + 1, _, h, e => by
    simp only [Rps] at h
    obtain ⟨v, r, e1, _, h2⟩ := h
    subst e1
    obtain ⟨u, h3, h4⟩ := h2.get (i := i) (by simpa using e)
    exact ⟨u, by simpa using h3, h4⟩
theorem Rps.app {W : Vw} : ∀ {ds es : List D} {vs us : List V}, Rps K mg W ds vs → Rps K mg W es us → Rps K mg W (ds ++ es) (vs ++ us)
  | [], _, _, _, h, k => by simp only [Rps] at h; subst h; exact k
  | _ :: _, _, _, _, h, k => by
    simp only [Rps] at h
    obtain ⟨v, r, e1, h1, h2⟩ := h
    subst e1
    simp only [List.cons_append, Rps]
    exact ⟨v, _, rfl, h1, h2.app k⟩
theorem Rps.take {W : Vw} : ∀ (n : Nat) {ds : List D} {vs : List V}, Rps K mg W ds vs → Rps K mg W (ds.take n) (vs.take n)
  | 0, _, _, h => by simp [Rps]
  | n + 1, [], _, h => by simp only [Rps] at h; subst h; simp [Rps]
  | n + 1, _ :: _, _, h => by
    simp only [Rps] at h
    obtain ⟨v, r, e1, h1, h2⟩ := h
    subst e1
    simp only [List.take_succ_cons, Rps]
    exact ⟨v, _, rfl, h1, h2.take n⟩
theorem Rps.drop {W : Vw} : ∀ (n : Nat) {ds : List D} {vs : List V}, Rps K mg W ds vs → Rps K mg W (ds.drop n) (vs.drop n)
  | 0, _, _, h => h
  | n + 1, [], _, h => by simp only [Rps] at h; subst h; simp [Rps]
  | n + 1, _ :: _, _, h => by
    simp only [Rps] at h
    obtain ⟨v, r, e1, h1, h2⟩ := h
    subst e1
    simp only [List.drop_succ_cons]
    exact h2.drop n
theorem Rps.set {W : Vw} {d : D} {v : V} (q : Rp K mg W d v) : ∀ (i : Nat) {ds : List D} {vs : List V}, Rps K mg W ds vs → Rps K mg W (ds.set i d) (vs.set i v)
  | _, [], _, h => by simp only [Rps] at h; subst h; simp [Rps]
  | 0, _ :: _, _, h => by
    simp only [Rps] at h
    obtain ⟨u, r, e1, _, h2⟩ := h
    subst e1
    simp only [List.set_cons_zero, Rps]
    exact ⟨v, _, rfl, q, h2⟩
  | i + 1, _ :: _, _, h => by
    simp only [Rps] at h
    obtain ⟨u, r, e1, h1, h2⟩ := h
    subst e1
    simp only [List.set_cons_succ, Rps]
    exact ⟨u, _, rfl, h1, h2.set q i⟩
theorem Rps.erase {W : Vw} : ∀ (i : Nat) {ds : List D} {vs : List V}, Rps K mg W ds vs → Rps K mg W (ds.eraseIdx i) (vs.eraseIdx i)
  | _, [], _, h => by simp only [Rps] at h; subst h; simp [Rps]
  | 0, _ :: _, _, h => by
    simp only [Rps] at h
    obtain ⟨u, r, e1, _, h2⟩ := h
    subst e1
    simpa using h2
  | i + 1, _ :: _, _, h => by
    simp only [Rps] at h
    obtain ⟨u, r, e1, h1, h2⟩ := h
    subst e1
    simp only [List.eraseIdx_cons_succ, Rps]
    exact ⟨u, _, rfl, h1, h2.erase i⟩
theorem Rps.nil {W : Vw} : Rps K mg W [] [] := by simp [Rps]
theorem Rps.cons {W : Vw} {d : D} {v : V} {ds : List D} {vs : List V} (h : Rp K mg W d v) (t : Rps K mg W ds vs) : Rps K mg W (d :: ds) (v :: vs) := by
  simp only [Rps]
  exact ⟨v, vs, rfl, h, t⟩
theorem Rps.rep {W : Vw} {ds : List D} {vs : List V} (h : Rps K mg W ds vs) : ∀ k : Nat, Rps K mg W (List.replicate k ds).flatten (List.replicate k vs).flatten
  | 0 => by simp [Rps]
  | k + 1 => by
    simp only [List.replicate_succ, List.flatten_cons]
    exact h.app (h.rep k)
end

/-! ### the state -/
def MO.live : MO → Bool
  | .fr _ => false
  | .env _ _ => false
  | _ => true
section
variable (K : PySem.W.Frag) (mg : Str → Option Value)
/-- the cell at a is the object o -/
def cellO (a : Addr) (o : Obj) : HO := .ext fun h => h.get? a = some o
/-- the captured slots and what their cells hold -/
def EnvR (W : Vw) : List Nat → List D → Prop
  | [], [] => True
  | i :: is, d :: ds => (∃ a o u v, Gh.S i = some a ∧ W.G a = some (cellO a o) ∧ o.data = .cell (some u) ∧ RelV v u ∧ Rp K mg W d v) ∧ EnvR W is ds
  | _, _ => False
def MoR (W : Vw) (H : Hp) (oa : Option Addr) : MO → Prop
  | .env is xs => EnvR K mg W is xs
  | .lst ds => ∃ a vs, oa = some a ∧ H a = some (.lst vs) ∧ W.G a = none ∧ Rps K mg W ds vs
  | .dct ks ds => ∃ a vs, oa = some a ∧ H a = some (.dK (ks.zip vs)) ∧ W.G a = none ∧ ks.length = ds.length ∧ ks.Nodup ∧ Rps K mg W ds vs
  | .fr d => ∃ a, oa = some a ∧ Rp K mg W d (.ref a)
structure SA (FF : List (Addr × HO)) (H : Hp) (W : Vw) (μ : List Addr) (st : Sto) : Prop where
  sub : SubG W.G H
  len : μ.length = st.length
  sto : ∀ (k : Nat) (o : MO), st[k]? = some o → MoR K mg W H μ[k]? o
  inj : ∀ (j k : Nat) (o o' : MO) (a : Addr), st[j]? = some o → st[k]? = some o' → o.live = true → o'.live = true → μ[j]? = some a → μ[k]? = some a → j = k
  ff : ∀ p ∈ FF, H p.1 = some p.2 ∧ W.G p.1 = none ∧ ∀ (k : Nat) (o : MO), st[k]? = some o → o.live = true → μ[k]? ≠ some p.1
/-- the slots -/
structure RE (W : Vw) (μ : List Addr) (σ : L2.St) (env : En) : Prop where
  len : env.length ≤ σ.length
  at_ : ∀ (i : Nat) (d : D), env[i]? = some (some d) → ∃ v, σ[i]? = some (some v) ∧ Rpa K mg W μ d v
end
section
variable {K : PySem.W.Frag} {mg : Str → Option Value} {FF : List (Addr × HO)} {H : Hp} {W W' : Vw} {μ μ' : List Addr} {st : Sto} {σ : L2.St} {env : En}
theorem RE.mono (x : Ex2 W μ W' μ') (h : RE K mg W μ σ env) : RE K mg W' μ' σ env := ⟨h.len, fun i d e => by
  obtain ⟨v, h1, h2⟩ := h.at_ i d e
  exact ⟨v, h1, h2.mono x⟩⟩
theorem RE.set {i : Nat} {d : D} {v : V} (h : RE K mg W μ σ env) (r : Rpa K mg W μ d v) : RE K mg W μ (σ.set i (some v)) (setE env i d) := by
  refine ⟨by unfold setE; rw [List.length_set, List.length_set]; exact h.len, fun j d' e => ?_⟩
  unfold setE at e
  by_cases hj : i = j
  · subst hj
    have hl : i < env.length := by
      have := (List.getElem?_eq_some_iff.mp e).1
      simpa using this
    rw [List.getElem?_set_self hl] at e
    cases e
    exact ⟨v, by rw [List.getElem?_set_self (Nat.lt_of_lt_of_le hl h.len)], r⟩
  · rw [List.getElem?_set_ne hj] at e
    obtain ⟨u, h1, h2⟩ := h.at_ j d' e
    exact ⟨u, by rw [List.getElem?_set_ne hj]; exact h1, h2⟩
theorem EnvR.mono (w : LeW W W') : ∀ {is : List Nat} {ds : List D}, EnvR K mg W is ds → EnvR K mg W' is ds
  | [], [], _ => True.intro
  | [], _ :: _, h => h.elim
  | _ :: _, [], h => h.elim
  | i :: is, d :: ds, ⟨⟨a, o, u, v, h1, h2, h3, h4, h5⟩, t⟩ => ⟨⟨a, o, u, v, h1, w.g _ _ h2, h3, h4, h5.mono w⟩, EnvR.mono w t⟩
theorem MoR.addr {o : MO} {oa : Option Addr} (h : MoR K mg W H oa o) (l : o.live = true) : ∃ a u, oa = some a ∧ H a = some u ∧ W.G a = none := by
  cases o with
  | lst ds =>
    obtain ⟨a, vs, e, h1, h2, _⟩ := h
    exact ⟨a, _, e, h1, h2⟩
  | dct ks ds =>
    obtain ⟨a, vs, e, h1, h2, _⟩ := h
    exact ⟨a, _, e, h1, h2⟩
  | fr d => cases l
  | env is xs => cases l
theorem MoR.mv {o : MO} {oa : Option Addr} {H' : Hp} (h : MoR K mg W H oa o) (w : LeW W W') (k : ∀ a u, oa = some a → H a = some u → W.G a = none → H' a = some u ∧ W'.G a = none) : MoR K mg W' H' oa o := by
  cases o with
  | lst ds =>
    obtain ⟨a, vs, e, h1, h2, h3⟩ := h
    obtain ⟨k1, k2⟩ := k a _ e h1 h2
    exact ⟨a, vs, e, k1, k2, h3.mono w⟩
  | dct ks ds =>
    obtain ⟨a, vs, e, h1, h2, h3, h4, h5⟩ := h
    obtain ⟨k1, k2⟩ := k a _ e h1 h2
    exact ⟨a, vs, e, k1, k2, h3, h4, h5.mono w⟩
  | fr d =>
    obtain ⟨a, e, h⟩ := h
    exact ⟨a, e, h.mono w⟩
  | env is xs => exact EnvR.mono w h
theorem MoR.fz {o : MO} {oa : Option Addr} {H' : Hp} (h : MoR K mg W H oa o) (l : o.live = false) (w : LeW W W') : MoR K mg W' H' oa o := by
  cases o with
  | fr d =>
    obtain ⟨a, e, h⟩ := h
    exact ⟨a, e, h.mono w⟩
  | env is xs => exact EnvR.mono w h
  | _ => cases l
/-- a new object at p, tracked alone -/
theorem SA.fresh {p : Addr} {o : HO} (S : SA K mg FF H W μ st) (hp : H p = none) : SA K mg FF (upd H p o) W μ st where
  sub := fun a u h => by
    have h1 := S.sub a u h
    rw [upd_ne (ne_of_none h1 hp)]
    exact h1
  len := S.len
  sto := fun k u e => (S.sto k u e).mv (LeW.refl _) fun a v _ h1 h2 => ⟨by rw [upd_ne (ne_of_none h1 hp)]; exact h1, h2⟩
  inj := S.inj
  ff := fun p' h => by
    obtain ⟨h1, h2, h3⟩ := S.ff p' h
    exact ⟨by rw [upd_ne (ne_of_none h1 hp)]; exact h1, h2, h3⟩
theorem SA.gnone {p : Addr} (S : SA K mg FF H W μ st) (hp : H p = none) : W.G p = none := by
  cases e : W.G p with
  | none => rfl
  | some u =>
    have := S.sub p u e
    rw [hp] at this
    cases this
theorem SA.nmu {p : Addr} (S : SA K mg FF H W μ st) (hp : H p = none) {k : Nat} {o : MO} (e : st[k]? = some o) (l : o.live = true) : μ[k]? ≠ some p := fun z => by
  obtain ⟨a, u, h1, h2, _⟩ := (S.sto k o e).addr l
  rw [z] at h1
  cases h1
  rw [hp] at h2
  cases h2
def Vw.put (W : Vw) (p : Addr) (o : HO) : Vw := ⟨upd W.G p o⟩
theorem LeW.put {p : Addr} {o : HO} (h : W.G p = none) : LeW W (W.put p o) := ⟨fun a u e => by
  show upd W.G p o a = some u
  rw [upd_ne (ne_of_none e h)]
  exact e⟩
/-- a new object that stays as it is -/
theorem SA.put {p : Addr} {o : HO} (S : SA K mg FF H W μ st) (hp : H p = none) : SA K mg FF (upd H p o) (W.put p o) μ st := by
  have g := S.gnone hp
  refine ⟨fun a u h => ?_, S.len, fun k u e => (S.sto k u e).mv (LeW.put g) fun a v ea h1 h2 => ?_, S.inj, fun p' h => ?_⟩
  · have h' : upd W.G p o a = some u := h
    by_cases q : a = p
    · subst q
      rw [upd_same] at h' ⊢
      exact h'
    · rw [upd_ne q] at h' ⊢
      exact S.sub a u h'
  · have ne := ne_of_none h1 hp
    exact ⟨by rw [upd_ne ne]; exact h1, by show upd W.G p o a = none; rw [upd_ne ne]; exact h2⟩
  · obtain ⟨h1, h2, h3⟩ := S.ff p' h
    have ne := ne_of_none h1 hp
    exact ⟨by rw [upd_ne ne]; exact h1, by show upd W.G p o p'.1 = none; rw [upd_ne ne]; exact h2, h3⟩
theorem get_snoc {α : Type} {l : List α} {x : α} {k : Nat} {y : α} (h : (l ++ [x])[k]? = some y) : (k < l.length ∧ l[k]? = some y) ∨ (k = l.length ∧ y = x) := by
  by_cases hk : k < l.length
  · rw [List.getElem?_append_left hk] at h
    exact .inl ⟨hk, h⟩
  · rw [List.getElem?_append_right (by omega)] at h
    have : k - l.length = 0 := by
      have := (List.getElem?_eq_some_iff.mp h).1
      simp at this
      omega
    rw [this] at h
    simp at h
    exact .inr ⟨by omega, h.symm⟩
/-- a new object that may change -/
theorem SA.new {p : Addr} {o : HO} {mo : MO} (S : SA K mg FF H W μ st) (hp : H p = none) (hm : MoR K mg W (upd H p o) (some p) mo) : SA K mg FF (upd H p o) W (μ ++ [p]) (st ++ [mo]) := by
  have S1 := S.fresh (o := o) hp
  have hl : ∀ {k : Nat}, k < st.length → (μ ++ [p])[k]? = μ[k]? := fun {k} hk => List.getElem?_append_left (by rw [S.len]; exact hk)
  have he : (μ ++ [p])[st.length]? = some p := by rw [← S.len]; simp
  refine ⟨S1.sub, by rw [List.length_append, List.length_append, S.len]; rfl, fun k u e => ?_, fun j k u u' a e1 e2 l1 l2 m1 m2 => ?_, fun p' h => ?_⟩
  · rcases get_snoc e with ⟨hk, e⟩ | ⟨hk, e⟩
    · rw [hl hk]
      exact S1.sto k u e
    · rw [hk, he, e]
      exact hm
  · rcases get_snoc e1 with ⟨hj, e1⟩ | ⟨hj, e1⟩ <;> rcases get_snoc e2 with ⟨hk, e2⟩ | ⟨hk, e2⟩
    · rw [hl hj] at m1
      rw [hl hk] at m2
      exact S.inj j k u u' a e1 e2 l1 l2 m1 m2
    · subst hk
      rw [he] at m2
      cases m2
      rw [hl hj] at m1
      exact absurd m1 (S.nmu hp e1 l1)
    · subst hj
      rw [he] at m1
      cases m1
      rw [hl hk] at m2
      exact absurd m2 (S.nmu hp e2 l2)
    · omega
  · obtain ⟨h1, h2, h3⟩ := S1.ff p' h
    refine ⟨h1, h2, fun k u e l => ?_⟩
    rcases get_snoc e with ⟨hk, e⟩ | ⟨hk, e⟩
    · rw [hl hk]
      exact h3 k u e l
    · subst hk
      rw [he]
      intro z
      cases z
      obtain ⟨q1, _, _⟩ := S.ff p' h
      rw [hp] at q1
      cases q1
theorem get_set {α : Type} {l : List α} {i k : Nat} {x y : α} (h : (l.set i x)[k]? = some y) : (k = i ∧ y = x ∧ i < l.length) ∨ (k ≠ i ∧ l[k]? = some y) := by
  by_cases hk : i = k
  · subst hk
    have hl : i < l.length := by
      have := (List.getElem?_eq_some_iff.mp h).1
      simpa using this
    rw [List.getElem?_set_self hl] at h
    cases h
    exact .inl ⟨rfl, rfl, hl⟩
  · rw [List.getElem?_set_ne hk] at h
    exact .inr ⟨fun e => hk e.symm, h⟩
/-- a changing object is changed -/
theorem SA.write {k : Nat} {a : Addr} {o : HO} {mo mo' : MO} (S : SA K mg FF H W μ st) (e : st[k]? = some mo) (l : mo.live = true) (ea : μ[k]? = some a) (hm : MoR K mg W (upd H a o) (some a) mo') : SA K mg FF (upd H a o) W μ (st.set k mo') := by
  obtain ⟨a', u, q1, q2, q3⟩ := (S.sto k mo e).addr l
  rw [ea] at q1
  cases q1
  refine ⟨fun b v h => ?_, by rw [List.length_set]; exact S.len, fun j u' e' => ?_, fun i j u1 u2 b e1 e2 l1 l2 m1 m2 => ?_, fun p' h => ?_⟩
  · have ne : b ≠ a := fun z => by
      rw [z, q3] at h
      cases h
    rw [upd_ne ne]
    exact S.sub b v h
  · rcases get_set e' with ⟨rfl, rfl, _⟩ | ⟨hj, e'⟩
    · rw [ea]
      exact hm
    · cases hl : u'.live with
      | false =>
        exact (S.sto j u' e').fz hl (LeW.refl _)
      | true =>
        refine (S.sto j u' e').mv (LeW.refl _) fun b v eb h1 h2 => ⟨?_, h2⟩
        rw [upd_ne]
        · exact h1
        · intro z
          subst z
          exact hj (S.inj j k u' mo _ e' e hl l eb ea)
  · have lift : ∀ {i : Nat} {u1 : MO}, (st.set k mo')[i]? = some u1 → u1.live = true → ∃ u2, st[i]? = some u2 ∧ u2.live = true := fun {i u1} e1 l1 => by
      rcases get_set e1 with ⟨rfl, _, _⟩ | ⟨_, e1⟩
      · exact ⟨mo, e, l⟩
      · exact ⟨u1, e1, l1⟩
    obtain ⟨v1, f1, g1⟩ := lift e1 l1
    obtain ⟨v2, f2, g2⟩ := lift e2 l2
    exact S.inj i j v1 v2 b f1 f2 g1 g2 m1 m2
  · obtain ⟨h1, h2, h3⟩ := S.ff p' h
    have ne : p'.1 ≠ a := fun z => h3 k mo e l (by rw [z]; exact ea)
    refine ⟨by rw [upd_ne ne]; exact h1, h2, fun i u1 e1 l1 => ?_⟩
    rcases get_set e1 with ⟨rfl, _, _⟩ | ⟨_, e1⟩
    · exact h3 _ mo e l
    · exact h3 i u1 e1 l1
/-- a changing object stays as it is from now on -/
theorem SA.freeze {k : Nat} {a : Addr} {u : HO} {mo : MO} {d : D} (S : SA K mg FF H W μ st) (e : st[k]? = some mo) (l : mo.live = true) (ea : μ[k]? = some a) (hu : H a = some u) (hd : Rp K mg (W.put a u) d (.ref a)) : SA K mg FF H (W.put a u) μ (st.set k (.fr d)) := by
  obtain ⟨a', u', q1, q2, q3⟩ := (S.sto k mo e).addr l
  rw [ea] at q1
  cases q1
  refine ⟨fun b v h => ?_, by rw [List.length_set]; exact S.len, fun j u' e' => ?_, fun i j u1 u2 b e1 e2 l1 l2 m1 m2 => ?_, fun p' h => ?_⟩
  · have h' : upd W.G a u b = some v := h
    by_cases z : b = a
    · subst z
      rw [upd_same] at h'
      cases h'
      exact hu
    · rw [upd_ne z] at h'
      exact S.sub b v h'
  · rcases get_set e' with ⟨rfl, rfl, _⟩ | ⟨hj, e'⟩
    · exact ⟨a, ea, hd⟩
    · cases hl : u'.live with
      | false =>
        exact (S.sto j u' e').fz hl (LeW.put q3)
      | true =>
        refine (S.sto j u' e').mv (LeW.put q3) fun b v eb h1 h2 => ⟨h1, ?_⟩
        show upd W.G a u b = none
        rw [upd_ne]
        · exact h2
        · intro z
          subst z
          exact hj (S.inj j k u' mo _ e' e hl l eb ea)
  · rcases get_set e1 with ⟨_, rfl, _⟩ | ⟨_, e1⟩
    · cases l1
    · rcases get_set e2 with ⟨_, rfl, _⟩ | ⟨_, e2⟩
      · cases l2
      · exact S.inj i j u1 u2 b e1 e2 l1 l2 m1 m2
  · obtain ⟨h1, h2, h3⟩ := S.ff p' h
    have ne : p'.1 ≠ a := fun z => h3 k mo e l (by rw [z]; exact ea)
    refine ⟨h1, by show upd W.G a u p'.1 = none; rw [upd_ne ne]; exact h2, fun i u1 e1 l1 => ?_⟩
    rcases get_set e1 with ⟨_, rfl, _⟩ | ⟨_, e1⟩
    · cases l1
    · exact h3 i u1 e1 l1
/-- objects behind n are forgotten -/
theorem SA.cut (S : SA K mg FF H W μ st) (n : Nat) : SA K mg FF H W (μ.take n) (st.take n) := by
  have at_ : ∀ {α : Type} {l : List α} {k : Nat} {x : α}, (l.take n)[k]? = some x → k < n ∧ l[k]? = some x := fun {α l k x} h => by
    by_cases hk : k < n
    · rw [List.getElem?_take_of_lt hk] at h
      exact ⟨hk, h⟩
    · rw [List.getElem?_eq_none (by simp; omega)] at h
      cases h
  refine ⟨S.sub, by rw [List.length_take, List.length_take, S.len], fun k o e => ?_, fun j k o o' a e1 e2 l1 l2 m1 m2 => S.inj j k o o' a (at_ e1).2 (at_ e2).2 l1 l2 (at_ m1).2 (at_ m2).2, fun p' h => ?_⟩
  · obtain ⟨hk, e⟩ := at_ e
    rw [List.getElem?_take_of_lt hk]
    exact S.sto k o e
  · obtain ⟨h1, h2, h3⟩ := S.ff p' h
    refine ⟨h1, h2, fun k o e l z => ?_⟩
    obtain ⟨hk, e⟩ := at_ e
    exact h3 k o e l (at_ z).2
end
end Ev
end
section
set_option Elab.async false
set_option linter.all false
set_option maxRecDepth 100000
set_option maxHeartbeats 1000003
namespace Ev
open PySem PySem.Spec PyProof.Rows L2
variable [Gh]

/-! ### readings by the evaluator -/
abbrev Rl (α β : Type) := Vw → List Addr → α → β → Prop
section
variable (K : PySem.W.Frag) (mg : Str → Option Value)
/-- an exception's class and dict -/
def ExR (W : Vw) (x : Ex) (cls : Value) (dd : Option Addr) : Prop :=
  ∃ (C a : Addr) (fs : List (Str × V)), cls = .ref C ∧ mg x.c = some (.ref C) ∧ dd = some a ∧ W.G a = some (.xd fs) ∧ ∀ f d, lkF x.fs x.xs f = some d → ∃ v, fs.lookup f = some v ∧ Rp K mg W d v
variable (WE : WX)
def Pt {α β : Type} (rel : Rl α β) (FF : List (Addr × HO)) (σ : L2.St) (W : Vw) (μ : List Addr) (r : R α) (Q : β → Hp → Prop) : Prop :=
  match r with
  | .ok d st' => ∀ v H' W' μ', SA K mg FF H' W' μ' st' → Ex2 W μ W' μ' → rel W' μ' d v → Q v H'
  | .exc x st' => ∀ H' W' μ' cls dd, SA K mg FF H' W' μ' st' → Ex2 W μ W' μ' → ExR K mg W' x cls dd → WE cls dd σ H'
  | .no => False
def rd {α β : Type} (rel : Rl α β) (ev : En → M α) : L2.St → Hp → (β → Hp → Prop) → Prop := fun σ H Q =>
  ∃ FF env st W μ, SA K mg FF H W μ st ∧ RE K mg W μ σ env ∧ Pt K mg WE rel FF σ W μ (ev env st) Q
def relA : Rl D V := fun W μ d v => Rpa K mg W μ d v
def relL : Rl (List D) (List V) := fun W μ d v => Rpas K mg W μ d v
def relB : Rl Bool Bool := fun _ _ b c => b = c
end
section
variable {K : PySem.W.Frag} {mg : Str → Option Value} {WE : WX} {α β γ δ : Type} {rel : Rl α β} {rel2 : Rl γ δ} {FF : List (Addr × HO)} {σ : L2.St} {W W1 : Vw} {μ μ1 : List Addr} {H : Hp} {st : Sto} {env : En}
theorem Pt.mono {r : R α} {Q : β → Hp → Prop} (x : Ex2 W μ W1 μ1) (h : Pt K mg WE rel FF σ W μ r Q) : Pt K mg WE rel FF σ W1 μ1 r Q := by
  cases r with
  | ok d st' => exact fun v H' W' μ' s e => h v H' W' μ' s (x.trans e)
  | exc y st' => exact fun H' W' μ' cls dd s e => h H' W' μ' cls dd s (x.trans e)
  | no => exact h
theorem Pt.imp {r : R α} {Q Q' : β → Hp → Prop} (h : Pt K mg WE rel FF σ W μ r Q) (q : ∀ v H, Q v H → Q' v H) : Pt K mg WE rel FF σ W μ r Q' := by
  cases r with
  | ok d st' => exact fun v H' W' μ' s e k => q _ _ (h v H' W' μ' s e k)
  | exc y st' => exact h
  | no => exact h
/-- one step, then the rest -/
theorem rd_bnd {m : En → M α} {f : En → α → M γ} {Q : δ → Hp → Prop} (h : rd K mg WE rel2 (fun e => bnd (m e) (f e)) σ H Q) :
    rd K mg WE rel m σ H (fun b H1 => ∃ FF env st a W μ, SA K mg FF H1 W μ st ∧ RE K mg W μ σ env ∧ rel W μ a b ∧ Pt K mg WE rel2 FF σ W μ (f env a st) Q) := by
  obtain ⟨FF, env, st, W, μ, S, E, p⟩ := h
  refine ⟨FF, env, st, W, μ, S, E, ?_⟩
  have p' : Pt K mg WE rel2 FF σ W μ (match m env st with
    | .ok a s' => f env a s'
    | .exc x s' => .exc x s'
    | .no => .no) Q := p
  cases e : m env st with
  | ok a st1 =>
    rw [e] at p'
    exact fun b H1 W1 μ1 S1 x r => ⟨FF, env, st1, a, W1, μ1, S1, E.mono x, r, Pt.mono x p'⟩
  | exc y st1 =>
    rw [e] at p'
    exact p'
  | no =>
    rw [e] at p'
    exact p'
theorem rd.imp {m : En → M α} {Q Q' : β → Hp → Prop} (h : rd K mg WE rel m σ H Q) (q : ∀ v H, Q v H → Q' v H) : rd K mg WE rel m σ H Q' := by
  obtain ⟨FF, env, st, W, μ, S, E, p⟩ := h
  exact ⟨FF, env, st, W, μ, S, E, p.imp q⟩
/-- two values, then the rest -/
theorem rd_bnd2 {α2 β2 : Type} {relX : Rl α2 β2} (mono : ∀ {W W' μ μ' a b}, Ex2 W μ W' μ' → rel W μ a b → rel W' μ' a b) {m : En → M α} {m2 : En → M α2} {f : En → α → α2 → M γ} {Q : δ → Hp → Prop}
    (h : rd K mg WE rel2 (fun e => bnd (m e) fun x => bnd (m2 e) fun y => f e x y) σ H Q) :
    rd K mg WE rel m σ H (fun b H1 => rd K mg WE relX m2 σ H1 fun c H2 => ∃ FF env st x y W μ, SA K mg FF H2 W μ st ∧ RE K mg W μ σ env ∧ rel W μ x b ∧ relX W μ y c ∧ Pt K mg WE rel2 FF σ W μ (f env x y st) Q) := by
  refine (rd_bnd (f := fun e x => bnd (m2 e) fun y => f e x y) h).imp ?_
  rintro b H1 ⟨FF, env, st, a, W, μ, S, E, r, p⟩
  refine ⟨FF, env, st, W, μ, S, E, ?_⟩
  have p' : Pt K mg WE rel2 FF σ W μ (match m2 env st with
    | .ok y s' => f env a y s'
    | .exc x s' => .exc x s'
    | .no => .no) Q := p
  cases e : m2 env st with
  | ok y st1 =>
    rw [e] at p'
    exact fun c H2 W2 μ2 S2 x r2 => ⟨FF, env, st1, a, y, W2, μ2, S2, E.mono x, mono x r, r2, Pt.mono x p'⟩
  | exc y st1 =>
    rw [e] at p'
    exact p'
  | no =>
    rw [e] at p'
    exact p'
theorem relA_mono {W W' : Vw} {μ μ' : List Addr} {a : D} {b : V} (x : Ex2 W μ W' μ') (h : relA K mg W μ a b) : relA K mg W' μ' a b := Rpa.mono x h
theorem relL_mono {W W' : Vw} {μ μ' : List Addr} {a : List D} {b : List V} (x : Ex2 W μ W' μ') (h : relL K mg W μ a b) : relL K mg W' μ' a b := Rpas.mono x h
end
theorem _root_.L2.PE.imp {X : Cx} {e : Expr} {t t' : TE} (p : PE X e t) (h : ∀ σ H Q, t' σ H Q → t σ H Q) : PE X e t' := ⟨fun pins s σ H Q I q => p.run pins s σ H Q I (h _ _ _ q)⟩
theorem _root_.L2.PT.imp {X : Cx} {e : Expr} {t t' : TT} (p : PT X e t) (h : ∀ σ H Q, t' σ H Q → t σ H Q) : PT X e t' := ⟨fun pins s σ H Q I q => p.run pins s σ H Q I (h _ _ _ q)⟩
theorem _root_.L2.PW.imp {X : Cx} {e : Expr} {t t' : TT} (p : PW X e t) (h : ∀ σ H Q, t' σ H Q → t σ H Q) : PW X e t' := ⟨fun wh pins s σ H Q I q => p.run wh pins s σ H Q I (h _ _ _ q)⟩
theorem _root_.L2.PA.imp {X : Cx} {e : List Expr} {t t' : TA} (p : PA X e t) (h : ∀ σ H Q, t' σ H Q → t σ H Q) : PA X e t' := ⟨fun pos pins s σ H Q I q => p.run pos pins s σ H Q I (h _ _ _ q)⟩

def Vw.at (W : Vw) (H : Hp) : Vw := ⟨H⟩
section
variable {K : PySem.W.Frag} {mg : Str → Option Value} {FF : List (Addr × HO)} {H : Hp} {W : Vw} {μ : List Addr} {st : Sto} {d : D} {x : V}
theorem SA.le (S : SA K mg FF H W μ st) : LeW W (W.at H) := ⟨S.sub⟩
/-- what an object holds at the moment: the object itself as it is now, its items plain -/
def Rpt (K : PySem.W.Frag) (mg : Str → Option Value) (H : Hp) (W : Vw) : D → V → Prop
  | .lst ds, v => ∃ a vs, v = .ref a ∧ H a = some (.lst vs) ∧ Rps K mg W ds vs
  | .dct ks ds, v => ∃ a vs, v = .ref a ∧ H a = some (.dK (ks.zip vs)) ∧ ks.length = ds.length ∧ ks.Nodup ∧ Rps K mg W ds vs
  | d, v => Rp K mg W d v
theorem Rpt.of (s : SubG W.G H) (r : Rp K mg W d x) : Rpt K mg H W d x := by
  cases d with
  | lst ds =>
    simp only [Rp] at r
    obtain ⟨a, vs, e, q, r⟩ := r
    exact ⟨a, vs, e, s _ _ q, r⟩
  | dct ks ds =>
    simp only [Rp] at r
    obtain ⟨a, vs, e, q, r⟩ := r
    exact ⟨a, vs, e, s _ _ q, r⟩
  | _ => exact r
theorem Rpt.at (l : LeW W (W.at H)) (r : Rpt K mg H W d x) : Rp K mg (W.at H) d x := by
  cases d with
  | lst ds =>
    obtain ⟨a, vs, e, q, r⟩ := r
    simp only [Rp]
    exact ⟨a, vs, e, q, r.mono l⟩
  | dct ks ds =>
    obtain ⟨a, vs, e, q, r1, r2, r3⟩ := r
    simp only [Rp]
    exact ⟨a, vs, e, q, r1, r2, r3.mono l⟩
  | _ => exact Rp.mono l r
theorem SA.tt (S : SA K mg FF H W μ st) (r : Rpa K mg W μ d x) (n : notMut (thD d st) = true) : Rpt K mg H W (thD d st) x := by
  cases d with
  | mu k =>
    obtain ⟨a, ea, rfl⟩ := r
    simp only [thD] at n ⊢
    cases e : st[k]? with
    | none => rw [e] at n; cases n
    | some o =>
      have q := S.sto k o e
      cases o with
      | lst xs =>
        obtain ⟨a', vs, q1, q2, q3, q4⟩ := q
        rw [ea] at q1
        cases q1
        exact ⟨a, vs, rfl, q2, q4⟩
      | dct ks xs =>
        obtain ⟨a', vs, q1, q2, q3, q4, q5, q6⟩ := q
        rw [ea] at q1
        cases q1
        exact ⟨a, vs, rfl, q2, q4, q5, q6⟩
      | fr d =>
        obtain ⟨a', q1, q2⟩ := q
        rw [ea] at q1
        cases q1
        exact Rpt.of S.sub q2
      | env is xs =>
        rw [e] at n
        cases n
  | _ => exact Rpt.of S.sub r
theorem SA.th (S : SA K mg FF H W μ st) (r : Rpa K mg W μ d x) (n : notMut (thD d st) = true) : Rp K mg (W.at H) (thD d st) x := (S.tt r n).at S.le
end
/-! ### values by their data -/
section
variable {X : Cx} {WE : WX} {pins : List (Addr × Obj)} {s : Shared} {σ : L2.St} {H : Hp} {W : Vw} {μ : List Addr} {st : Sto} {FF : List (Addr × HO)} {Q : VK} {u v : Value} {x y : V}
theorem Rp.sqT {K : PySem.W.Frag} {mg : Str → Option Value} {ds : List D} (h : Rp K mg W (.tup ds) x) (sub : SubG W.G H) : ∃ a vs, x = .ref a ∧ SqT K H a vs ∧ Rps K mg W ds vs := by
  simp only [Rp] at h
  obtain ⟨a, vs, e, q, r⟩ := h
  exact ⟨a, vs, e, sqT_sub sub q, r⟩
theorem Rp.lstH {K : PySem.W.Frag} {mg : Str → Option Value} {ds : List D} (h : Rp K mg W (.lst ds) x) (sub : SubG W.G H) : ∃ a vs, x = .ref a ∧ H a = some (.lst vs) ∧ Rps K mg W ds vs := by
  simp only [Rp] at h
  obtain ⟨a, vs, e, q, r⟩ := h
  exact ⟨a, vs, e, sub _ _ q, r⟩
theorem Rps.ints {K : PySem.W.Frag} {mg : Str → Option Value} : ∀ {ns : List Int} {vs : List V}, Rps K mg W (ns.map .int) vs → vs = ns.map V.int
  | [], _, h => by simpa [Rps] using h
  | n :: ns, _, h => by
    simp only [List.map_cons, Rps] at h
    obtain ⟨v, r, e, h1, h2⟩ := h
    simp only [Rp] at h1
    rw [e, h1, Rps.ints h2]
    rfl
theorem Rps.of_ints {K : PySem.W.Frag} {mg : Str → Option Value} : ∀ (ns : List Int), Rps K mg W (ns.map .int) (ns.map V.int)
  | [] => by simp [Rps]
  | n :: ns => by
    simp only [List.map_cons, Rps]
    exact ⟨_, _, rfl, by simp only [Rp], Rps.of_ints ns⟩
/-- the items of a thing that is walked -/
theorem items_rp {K : PySem.W.Frag} {mg : Str → Option Value} {W : Vw} {x : V} {d : D} {ds : List D} (s : SubG W.G H) (r : Rpt K mg H W d x) (h : itemsO d = some ds) :
    ∃ a vs, x = .ref a ∧ (SqT K H a vs ∨ SqL K H a vs) ∧ Rps K mg W ds vs := by
  cases d <;> first | (simp [itemsO] at h; done) | skip
  · simp only [itemsO, Option.some.injEq] at h
    subst h
    obtain ⟨a, vs, e, q, r⟩ := Rp.sqT (show Rp K mg W (.tup _) x from r) s
    exact ⟨a, vs, e, .inl q, r⟩
  · simp only [itemsO, Option.some.injEq] at h
    subst h
    obtain ⟨a, vs, e, q, r⟩ := r
    exact ⟨a, vs, e, .inr (SqL.of q), r⟩
  · simp only [itemsO, Option.some.injEq] at h
    subst h
    have r' : Rp K mg W (.scr _) x := r
    simp only [Rp] at r'
    obtain ⟨a, e, q⟩ := r'
    exact ⟨a, _, e, .inr (sqL_sub s q), Rps.of_ints _⟩
theorem itemsO_nm {d : D} {ds : List D} (h : itemsO d = some ds) : notMut d = true := by
  cases d <;> first | rfl | (simp [itemsO] at h)
theorem items_seq {K : PySem.W.Frag} {mg : Str → Option Value} {d : D} {ds : List D} {x : V} (S : SA K mg FF H W μ st) (r : Rpa K mg W μ d x) (h : itemsD d st = some ds) :
    ∃ a vs, x = .ref a ∧ (SqT K H a vs ∨ SqL K H a vs) ∧ Rps K mg W ds vs := items_rp S.sub (S.tt r (itemsO_nm h)) h
theorem add_tup {t b : Addr} {xs ys : List V} {ds es : List D} (I : Inv X pins σ H s) (S : SA X.K X.mg FF H W μ st) (h1 : SqT X.K H t xs) (h2 : SqT X.K H b ys) (rb : Rp X.K X.mg W (.tup es) (.ref b)) (rt : Rp X.K X.mg W (.tup ds) (.ref t)) (r1 : Rps X.K X.mg W ds xs) (r2 : Rps X.K X.mg W es ys)
    (hz : xs.length + ys.length ≤ sizeLine) (q : ∀ v H' W' μ', SA X.K X.mg FF H' W' μ' st → Ex2 W μ W' μ' → Rpa X.K X.mg W' μ' (.tup (ds ++ es)) v → Q v H') :
    wpAny (model X.prog X.w) X.A (binaryOp .Add (.ref t) (.ref b)) (EP X pins σ Q) X.xe s := by
  obtain ⟨vs, rv, pt, _⟩ := I.tuple h1
  obtain ⟨ws, rw', pb, _⟩ := I.tuple h2
  obtain ⟨⟨cls, dd, data, sl⟩, ho, hc, n, hd⟩ := id pt
  obtain ⟨⟨cls2, dd2, data2, sl2⟩, ho2, hc2, n2, hd2⟩ := id pb
  simp only at hc hd hc2 hd2
  subst hc hd hc2 hd2
  have e : vs.toArray ++ ws.toArray = (vs ++ ws).toArray := by simp
  have lv := rv.length
  have lw := rw'.length
  by_cases hv : vs = []
  · refine concat_meets ⟨_, ho, rfl⟩ ⟨_, ho2, rfl⟩ noFill_tuple_add seq_tuple_add PySem.F.slot_tuple_add PySem.F.entry_tuple_add (PySem.F.args_tuple_add_2 _ _)
      (tuple_addW0 t b vs.toArray ws.toArray n n2 dd dd2 sl sl2 (by simp [hv])) ⟨ho, ho2, ?_⟩
    have ed : ds = [] := by
      have := r1.length
      rw [lv, hv] at this
      exact List.eq_nil_of_length_eq_zero this
    subst ed
    exact ⟨.ref b, H, I, rfl, q _ H W μ S (Ex2.refl _ _) (by simpa using rb.a)⟩
  · by_cases hw : ws = []
    · refine concat_meets ⟨_, ho, rfl⟩ ⟨_, ho2, rfl⟩ noFill_tuple_add seq_tuple_add PySem.F.slot_tuple_add PySem.F.entry_tuple_add (PySem.F.args_tuple_add_2 _ _)
        (tuple_addW1 t b vs.toArray ws.toArray n n2 dd dd2 sl sl2 (by simpa using hv) (by simp [hw])) ⟨ho, ho2, ?_⟩
      have ed : es = [] := by
        have := r2.length
        rw [lw, hw] at this
        exact List.eq_nil_of_length_eq_zero this
      subst ed
      exact ⟨.ref t, H, I, rfl, q _ H W μ S (Ex2.refl _ _) (by simpa using rt.a)⟩
    · refine concat_meets ⟨_, ho, rfl⟩ ⟨_, ho2, rfl⟩ noFill_tuple_add seq_tuple_add PySem.F.slot_tuple_add PySem.F.entry_tuple_add (PySem.F.args_tuple_add_2 _ _)
        (tuple_addW2 t b vs.toArray ws.toArray n n2 dd dd2 sl sl2 (by simpa using hv) (by simpa using hw) (by rw [List.size_toArray, List.size_toArray]; omega)) ⟨ho, ho2, ?_⟩
      rw [e]
      have hn : H s.heap.objs.size = none := I.hok.fresh (Nat.le_refl _)
      refine ⟨.ref s.heap.objs.size, _, I.laid (t' := s.toks) (o := .tup (xs ++ ys)) (fun b o e => Heap.get?_push_of_some _ e) (Nat.le_refl _) ⟨by rw [List.length_append]; exact hz, vs ++ ws, rv.append rw', IsTup.new _ _⟩, rfl, ?_⟩
      have le := LeW.put (o := .tup (xs ++ ys)) (S.gnone hn)
      refine q _ _ _ _ (S.put hn) ⟨le, [], by simp⟩ (Rp.a ?_)
      simp only [Rp]
      exact ⟨_, xs ++ ys, rfl, SqT.of upd_same, (r1.app r2).mono le⟩
theorem szI_ok {i : Int} (h : szI i = true) : i.natAbs.log2 < 9000 := of_decide_eq_true h
theorem rep_len {α : Type} (l : List α) : ∀ k : Nat, (List.replicate k l).flatten.length = l.length * k
  | 0 => by simp
  | k + 1 => by rw [List.replicate_succ, List.flatten_cons, List.length_append, rep_len l k, Nat.mul_succ]; omega
theorem line1m : 1000000 ≤ sizeLine := by rw [sizeLine_eq]; decide

theorem tuple_mulE (l : Addr) (items : Array Value) (n : Nat) (dd : Option Addr) (sl : Array (Option Value)) (x : Int) (u : Tok) (c0 : (decide (x < -(2 ^ 63)) || decide (x ≥ 2 ^ 63)) = false) (c1 : (items.isEmpty || x == 1) = true) :
    Meets (Builtin.«tuple.__mul__» ⟨[.ref l, .int x u], []⟩) (fun _ R s => s.heap.get? l = some { cls := .type "tuple", dict := dd, data := .seq items n, slots := sl } ∧
      R (.ok (.ret (Value.ref l))) { s with heap := s.heap, toks := s.toks }) :=
  .of_wp fun prog w A R s h => by
    obtain ⟨hp, g, d, tk, os⟩ := s
    obtain ⟨hl, h⟩ := h
    have f1 := AutoSeq1.idx_int
    wp_walk using wpAny_loadPart' hl
    repeat (first
      | (refine wpAny_ite_false (decide_eq_false (by rw [c0]; exact Bool.false_ne_true)) ?_; wp_walk using wpAny_loadPart' hl)
      | (refine wpAny_ite_true (decide_eq_true c1) ?_; wp_walk using wpAny_loadPart' hl))
    exact ⟨_, rfl, h⟩
theorem tuple_mul0 (l : Addr) (items : Array Value) (n : Nat) (dd : Option Addr) (sl : Array (Option Value)) (x : Int) (u : Tok) (c0 : (decide (x < -(2 ^ 63)) || decide (x ≥ 2 ^ 63)) = false) (c1 : (items.isEmpty || x == 1) = false) (c2 : (decide (x ≤ 0) || items.isEmpty) = true) :
    Meets (Builtin.«tuple.__mul__» ⟨[.ref l, .int x u], []⟩) (fun _ R s => s.heap.get? l = some { cls := .type "tuple", dict := dd, data := .seq items n, slots := sl } ∧
      R (.ok (.ret (Value.ref s.heap.objs.size))) { s with heap := s.heap.push { cls := Value.type "tuple", data := Data.seq #[] }, toks := s.toks }) :=
  .of_wp fun prog w A R s h => by
    obtain ⟨hp, g, d, tk, os⟩ := s
    obtain ⟨hl, h⟩ := h
    have f1 := AutoSeq1.idx_int
    have hz : (#[] : Array Value).size ≤ sizeLine := Nat.zero_le _
    wp_walk using wpAny_loadPart' hl
    repeat (first
      | (refine wpAny_ite_false (decide_eq_false (by rw [c0]; exact Bool.false_ne_true)) ?_; wp_walk using wpAny_loadPart' hl)
      | (refine wpAny_ite_false (decide_eq_false (by rw [c1]; exact Bool.false_ne_true)) ?_; wp_walk using wpAny_loadPart' hl)
      | (refine wpAny_ite_true (decide_eq_true c2) ?_; wp_walk using wpAny_loadPart' hl))
    exact ⟨_, rfl, h⟩
end
end Ev
end
section
set_option Elab.async false
set_option linter.all false
set_option maxRecDepth 100000
set_option maxHeartbeats 1000003
namespace Ev
open PySem PySem.Spec PyProof.Rows L2
variable [Gh]
section
variable {X : Cx} {WE : WX} {pins : List (Addr × Obj)} {s : Shared} {σ τ : L2.St} {H : Hp} {W : Vw} {μ : List Addr} {st : Sto} {FF : List (Addr × HO)} {Q : VK} {u v : Value} {x y : V}
/-- a new tuple, a new list: tracked and plain -/
theorem new_tup {xs : List V} {ds : List D} {vs : List Value} {tk : Nat} (I : Inv X pins σ H s) (S : SA X.K X.mg FF H W μ st) (rv : Vals xs vs) (r : Rps X.K X.mg W ds xs) (hz : xs.length ≤ sizeLine)
    (q : ∀ v H' W' μ', SA X.K X.mg FF H' W' μ' st → Ex2 W μ W' μ' → Rpa X.K X.mg W' μ' (.tup ds) v → Q v H') :
    EP X pins σ Q (.ref s.heap.objs.size) { s with heap := s.heap.push { cls := .type "tuple", data := .seq vs.toArray }, toks := tk } := by
  have hn : H s.heap.objs.size = none := I.hok.fresh (Nat.le_refl _)
  refine ⟨.ref s.heap.objs.size, _, I.laid (t' := tk) (o := .tup xs) (fun b o e => Heap.get?_push_of_some _ e) (Nat.le_refl _) ⟨hz, vs, rv, IsTup.new _ _⟩, rfl, ?_⟩
  have le := LeW.put (o := .tup xs) (S.gnone hn)
  refine q _ _ _ _ (S.put hn) ⟨le, [], by simp⟩ (Rp.a ?_)
  simp only [Rp]
  exact ⟨_, xs, rfl, SqT.of upd_same, r.mono le⟩
theorem put_lst {p : Addr} {xs : List V} {ds : List D} (S : SA X.K X.mg FF H W μ st) (hn : H p = none) (r : Rps X.K X.mg W ds xs) (q : ∀ v H' W' μ', SA X.K X.mg FF H' W' μ' st → Ex2 W μ W' μ' → Rpa X.K X.mg W' μ' (.lst ds) v → Q v H') :
    Q (.ref p) (upd H p (.lst xs)) := by
  have le := LeW.put (o := .lst xs) (S.gnone hn)
  refine q _ _ _ _ (S.put hn) ⟨le, [], by simp⟩ (Rp.a ?_)
  simp only [Rp]
  exact ⟨_, xs, rfl, upd_same, r.mono le⟩
theorem mul_tup {t : Addr} {k : Int} {tk : Tok} {xs : List V} {ds : List D} (I : Inv X pins σ H s) (S : SA X.K X.mg FF H W μ st) (hT : SqT X.K H t xs) (rt : Rp X.K X.mg W (.tup ds) (.ref t)) (r : Rps X.K X.mg W ds xs) (h0 : 0 ≤ k) (h1 : k < 2 ^ 62) (hz : ds.length * k.toNat ≤ 1000000)
    (q : ∀ v H' W' μ', SA X.K X.mg FF H' W' μ' st → Ex2 W μ W' μ' → Rpa X.K X.mg W' μ' (.tup (List.replicate k.toNat ds).flatten) v → Q v H') :
    wpAny (model X.prog X.w) X.A (binaryOp .Mult (.ref t) (.int k tk)) (EP X pins σ Q) X.xe s := by
  obtain ⟨its, rv, ⟨⟨cls, dd, data, sl⟩, ho, hc, n, hd⟩, hs⟩ := I.tuple hT
  simp only at hc hd
  subst hc hd
  have hle : its.length = ds.length := by rw [r.length, rv.length]
  have hsz0 : its.toArray.size = ds.length := by rw [List.size_toArray, hle]
  have c0 : (decide (k < -(2 ^ 63)) || decide (k ≥ 2 ^ 63)) = false := by
    rw [decide_eq_false (by omega), decide_eq_false (by omega)] <;> rfl
  have run : ∀ {B : PySem.Value → Prop} (_ : True), True := fun _ => trivial
  by_cases c1 : (its.toArray.isEmpty || k == 1) = true
  · refine wpAny_binaryOp_repeat_ref (T := "tuple") (U := "int") (by decide) ⟨_, ho, rfl⟩ (fun s' => typeIs_int s' k tk) noFill_tuple_mul F.fills_int_mul F.slot_int_rmul repeat_tuple F.slot_int_index.lookup
      (call_meets F.slot_int_rmul (typeIs_int s k tk) F.entry_int_rmul (F.args_int_rmul_2 _ _) (int_rmul_tuple k tk t its.toArray n dd sl)
        ⟨ho, rfl, ⟨_, ho, rfl⟩, call_meets F.slot_tuple_mul ⟨_, ho, rfl⟩ F.entry_tuple_mul (F.args_tuple_mul_2 _ _) (tuple_mulE t its.toArray n dd sl k tk c0 c1) ⟨ho, ?_⟩⟩)
    refine ⟨.ref t, H, I, rfl, q _ H W μ S (Ex2.refl _ _) ?_⟩
    rcases Bool.or_eq_true_iff.mp c1 with c | c
    · have : ds = [] := by
        cases ds with
        | nil => rfl
        | cons a b =>
          have e : its = [] := by simpa using c
          rw [e] at hle
          simp at hle
      subst this
      have e : (List.replicate k.toNat ([] : List D)).flatten = [] := by
        rw [← List.length_eq_zero_iff, rep_len]
        simp
      rw [e]
      exact rt.a
    · have e : k = 1 := by simpa using c
      subst e
      simpa using rt.a
  · have c1' : (its.toArray.isEmpty || k == 1) = false := by simpa using c1
    by_cases c2 : (decide (k ≤ 0) || its.toArray.isEmpty) = true
    · have ek : k = 0 := by
        rcases Bool.or_eq_true_iff.mp c2 with c | c
        · have := of_decide_eq_true c
          omega
        · rw [c] at c1'
          simp at c1'
      refine wpAny_binaryOp_repeat_ref (T := "tuple") (U := "int") (by decide) ⟨_, ho, rfl⟩ (fun s' => typeIs_int s' k tk) noFill_tuple_mul F.fills_int_mul F.slot_int_rmul repeat_tuple F.slot_int_index.lookup
        (call_meets F.slot_int_rmul (typeIs_int s k tk) F.entry_int_rmul (F.args_int_rmul_2 _ _) (int_rmul_tuple k tk t its.toArray n dd sl)
          ⟨ho, rfl, ⟨_, ho, rfl⟩, call_meets F.slot_tuple_mul ⟨_, ho, rfl⟩ F.entry_tuple_mul (F.args_tuple_mul_2 _ _) (tuple_mul0 t its.toArray n dd sl k tk c0 c1' c2) ⟨ho, ?_⟩⟩)
      subst ek
      exact new_tup (xs := []) (vs := []) (ds := []) (tk := s.toks) I S .nil Rps.nil (Nat.zero_le _) q
    · have c2' : (decide (k ≤ 0) || its.toArray.isEmpty) = false := by simpa using c2
      have hm : ((its.toArray.size : Nat) : Int) * k ≤ 1000000 := by
        rw [hsz0]
        have e : (k.toNat : Int) = k := Int.toNat_of_nonneg h0
        rw [← e]
        have := Int.ofNat_le.mpr hz
        rw [Int.natCast_mul] at this
        omega
      have c4 : Builtin.Tuple.tupleTooMany (((its.toArray.size : Nat) : Int) * k) = false := by
        unfold Builtin.Tuple.tupleTooMany
        rw [sizeLine_eq]
        exact decide_eq_false (by omega)
      have flen : (List.replicate k.toNat its).flatten.length ≤ sizeLine := by
        rw [rep_len, hle]
        exact Nat.le_trans hz line1m
      refine wpAny_binaryOp_repeat_ref (T := "tuple") (U := "int") (by decide) ⟨_, ho, rfl⟩ (fun s' => typeIs_int s' k tk) noFill_tuple_mul F.fills_int_mul F.slot_int_rmul repeat_tuple F.slot_int_index.lookup
        (call_meets F.slot_int_rmul (typeIs_int s k tk) F.entry_int_rmul (F.args_int_rmul_2 _ _) (int_rmul_tuple k tk t its.toArray n dd sl)
          ⟨ho, rfl, ⟨_, ho, rfl⟩, call_meets F.slot_tuple_mul ⟨_, ho, rfl⟩ F.entry_tuple_mul (F.args_tuple_mul_2 _ _) (tuple_mulW t its.toArray n dd sl k tk c0 c1' c2' (by omega) c4 (by rw [size_rep, List.size_toArray]; exact flen)) ⟨ho, ?_⟩⟩)
      rw [size_rep]
      exact new_tup (tk := s.toks) I S (rv.rep k.toNat) (r.rep k.toNat) (by rw [rep_len, ← r.length]; exact Nat.le_trans hz line1m) q

theorem opD_pt {o : Option D} (h : Pt X.K X.mg WE (relA X.K X.mg) FF τ W μ (opD o st) Q) (S : SA X.K X.mg FF H W μ st) : ∃ r, o = some r ∧ ∀ v, Rpa X.K X.mg W μ r v → Q v H := by
  unfold opD at h
  cases o with
  | none => exact False.elim h
  | some r => exact ⟨r, rfl, fun v rv => h v H W μ S (Ex2.refl _ _) rv⟩
theorem int_of {FF : List (Addr × HO)} {H : Hp} {W : Vw} {μ : List Addr} {st : Sto} {a : D} {x : V} {i : Int} (S : SA X.K X.mg FF H W μ st) (r : Rpa X.K X.mg W μ a x) (e : thD a st = .int i) : x = .int i := by
  have r' := S.tt r (by rw [e]; rfl)
  rw [e] at r'
  exact r'
theorem str_of {FF : List (Addr × HO)} {H : Hp} {W : Vw} {μ : List Addr} {st : Sto} {a : D} {x : V} {i : Str} (S : SA X.K X.mg FF H W μ st) (r : Rpa X.K X.mg W μ a x) (e : thD a st = .str i) : x = .str i := by
  have r' := S.tt r (by rw [e]; rfl)
  rw [e] at r'
  exact r'
theorem lst_of {FF : List (Addr × HO)} {H : Hp} {W : Vw} {μ : List Addr} {st : Sto} {a : D} {x : V} {ds : List D} (S : SA X.K X.mg FF H W μ st) (r : Rpa X.K X.mg W μ a x) (e : thD a st = .lst ds) : ∃ t vs, x = .ref t ∧ H t = some (.lst vs) ∧ Rps X.K X.mg W ds vs := by
  have r' := S.tt r (by rw [e]; rfl)
  rw [e] at r'
  exact r'
theorem dct_of {FF : List (Addr × HO)} {H : Hp} {W : Vw} {μ : List Addr} {st : Sto} {a : D} {x : V} {ks : List Ky} {ds : List D} (S : SA X.K X.mg FF H W μ st) (r : Rpa X.K X.mg W μ a x) (e : thD a st = .dct ks ds) :
    ∃ t vs, x = .ref t ∧ H t = some (.dK (ks.zip vs)) ∧ ks.length = ds.length ∧ ks.Nodup ∧ Rps X.K X.mg W ds vs := by
  have r' := S.tt r (by rw [e]; rfl)
  rw [e] at r'
  exact r'
theorem tup_of {FF : List (Addr × HO)} {H : Hp} {W : Vw} {μ : List Addr} {st : Sto} {a : D} {x : V} {ds : List D} (S : SA X.K X.mg FF H W μ st) (r : Rpa X.K X.mg W μ a x) (e : thD a st = .tup ds) : Rp X.K X.mg W (.tup ds) x := by
  have r' := S.tt r (by rw [e]; rfl)
  rw [e] at r'
  exact r'
/-- a thing is kept: it stays as it is from now on -/
theorem frz_ok {K : PySem.W.Frag} {mg : Str → Option Value} {d d' : D} {x : V} {st' : Sto} (S : SA K mg FF H W μ st) (r : Rpa K mg W μ d x) (e : frzD d st = .ok d' st') : ∃ W', SA K mg FF H W' μ st' ∧ Ex2 W μ W' μ ∧ Rp K mg W' d' x := by
  cases d with
  | mu k =>
    obtain ⟨a, ea, rfl⟩ := r
    unfold frzD at e
    dsimp only at e
    split at e
    · rename_i xs es
      cases e
      obtain ⟨a', vs, q1, q2, q3, q4⟩ := S.sto k _ es
      rw [ea] at q1
      cases q1
      have le := LeW.put (o := .lst vs) q3
      have rp : Rp K mg (W.put a (.lst vs)) (.lst xs) (.ref a) := by
        simp only [Rp]
        exact ⟨a, vs, rfl, upd_same, q4.mono le⟩
      exact ⟨_, S.freeze es rfl ea q2 rp, ⟨le, [], by simp⟩, rp⟩
    · rename_i ks xs es
      cases e
      obtain ⟨a', vs, q1, q2, q3, q4, q5, q6⟩ := S.sto k _ es
      rw [ea] at q1
      cases q1
      have le := LeW.put (o := .dK (ks.zip vs)) q3
      have rp : Rp K mg (W.put a (.dK (ks.zip vs))) (.dct ks xs) (.ref a) := by
        simp only [Rp]
        exact ⟨a, vs, rfl, upd_same, q4, q5, q6.mono le⟩
      exact ⟨_, S.freeze es rfl ea q2 rp, ⟨le, [], by simp⟩, rp⟩
    · rename_i dd es
      cases e
      obtain ⟨a', q1, q2⟩ := S.sto k _ es
      rw [ea] at q1
      cases q1
      exact ⟨W, S, Ex2.refl _ _, q2⟩
    · cases e
  | _ =>
    cases e
    exact ⟨W, S, Ex2.refl _ _, r⟩
theorem frz_ex {d : D} {x : Ex} {st st' : Sto} (e : frzD d st = .exc x st') : False := by
  cases d with
  | mu k =>
    unfold frzD at e
    dsimp only at e
    split at e <;> cases e
  | _ => cases e
theorem frz_pt {α β : Type} {K : PySem.W.Frag} {mg : Str → Option Value} {rel : Rl α β} {d : D} {x : V} {f : D → M α} {Q : β → Hp → Prop} (S : SA K mg FF H W μ st) (r : Rpa K mg W μ d x) (h : Pt K mg WE rel FF τ W μ (bnd (frzD d) f st) Q) :
    ∃ d' st' W', SA K mg FF H W' μ st' ∧ Ex2 W μ W' μ ∧ Rp K mg W' d' x ∧ Pt K mg WE rel FF τ W' μ (f d' st') Q := by
  unfold bnd at h
  cases e : frzD d st with
  | ok d' st' =>
    rw [e] at h
    obtain ⟨W', S', x', r'⟩ := frz_ok S r e
    exact ⟨d', st', W', S', x', r', Pt.mono x' h⟩
  | exc y st' => exact (frz_ex e).elim
  | no =>
    rw [e] at h
    exact False.elim h
theorem frzs_pt {α β : Type} {K : PySem.W.Frag} {mg : Str → Option Value} {rel : Rl α β} {Q : β → Hp → Prop} : ∀ {ds : List D} {xs : List V} {W : Vw} {st : Sto} {f : List D → M α}, SA K mg FF H W μ st → Rpas K mg W μ ds xs → Pt K mg WE rel FF τ W μ (bnd (frzDs ds) f st) Q →
    ∃ ds' st' W', SA K mg FF H W' μ st' ∧ Ex2 W μ W' μ ∧ Rps K mg W' ds' xs ∧ Pt K mg WE rel FF τ W' μ (f ds' st') Q
  | [], _, W, st, f, S, r, h => by
    obtain rfl : _ = [] := r
    exact ⟨[], st, W, S, Ex2.refl _ _, Rps.nil, h⟩
  | d :: ds, _, W, st, f, S, r, h => by
    obtain ⟨x, q, rfl, r1, r2⟩ := r
    have h' : Pt K mg WE rel FF τ W μ (bnd (frzD d) (fun x => bnd (frzDs ds) fun xs => f (x :: xs)) st) Q := by
      rw [frzDs, bnd_bnd] at h
      have e : (fun a => bnd (bnd (frzDs ds) fun xs => ret (a :: xs)) f) = fun a => bnd (frzDs ds) fun xs => f (a :: xs) := by
        funext a
        rw [bnd_bnd]
        rfl
      rw [e] at h
      exact h
    obtain ⟨d', st', W', S', x', r', h2⟩ := frz_pt S r1 h'
    obtain ⟨ds', st2, W2, S2, x2, rr, h3⟩ := frzs_pt S' (r2.mono x') h2
    exact ⟨d' :: ds', st2, W2, S2, x'.trans x2, Rps.cons (r'.mono x2.w) rr, h3⟩
theorem op_fdivA {X : Cx} : OpR X (binaryOp .FloorDiv) (rI (fun _ j => j ≠ 0 ∧ j.natAbs.log2 < 9000) fun i j => .int (i.fdiv j)) := opI fun _ _ _ _ _ _ _ hc q => floordiv_int hc.1 q (.inl (PyProof.noPylong_of_log2 hc.2))
theorem bin_ok {op : Operator} {a b : D} (I : Inv X pins σ H s) (S : SA X.K X.mg FF H W μ st) (ra : Rpa X.K X.mg W μ a x) (rb : Rpa X.K X.mg W μ b y) (rx : RelV x u) (ry : RelV y v) (h : Pt X.K X.mg WE (relA X.K X.mg) FF τ W μ (binD op a b st) Q) :
    wpAny (model X.prog X.w) X.A (binaryOp op u v) (EP X pins σ Q) X.xe s := by
  unfold binD at h
  have h0 := h
  obtain ⟨r, hr, q⟩ := opD_pt h S
  rw [hr] at h0
  have hb : ∀ v H' W' μ', SA X.K X.mg FF H' W' μ' st → Ex2 W μ W' μ' → Rpa X.K X.mg W' μ' r v → Q v H' := h0
  unfold binO at hr
  split at hr
  · rename_i i j e1 e2
    cases hr
    obtain rfl := int_of S ra e1
    obtain rfl := int_of S rb e2
    exact op_add pins s σ H _ _ u v Q I rx ry ⟨_, _, rfl, rfl, q _ rfl⟩
  · rename_i i j e1 e2
    cases hr
    obtain rfl := int_of S ra e1
    obtain rfl := int_of S rb e2
    exact op_sub pins s σ H _ _ u v Q I rx ry ⟨_, _, rfl, rfl, q _ rfl⟩
  · rename_i i j e1 e2
    split at hr
    · rename_i c
      cases hr
      obtain rfl := int_of S ra e1
      obtain rfl := int_of S rb e2
      unfold mulOk at c
      obtain ⟨c1, c2⟩ := Bool.and_eq_true_iff.mp c
      have c1 := szI_ok c1
      have c2 := szI_ok c2
      exact op_mulW pins s σ H _ _ u v Q I rx ry ⟨_, _, rfl, rfl, by unfold CMulW; omega, q _ rfl⟩
    · cases hr
  · rename_i i j e1 e2
    split at hr
    · rename_i c
      cases hr
      obtain rfl := int_of S ra e1
      obtain rfl := int_of S rb e2
      obtain ⟨c1, c2⟩ := Bool.and_eq_true_iff.mp c
      exact op_fdivA pins s σ H _ _ u v Q I rx ry ⟨_, _, rfl, rfl, ⟨of_decide_eq_true c1, szI_ok c2⟩, q _ rfl⟩
    · cases hr
  · rename_i i j e1 e2
    split at hr
    · rename_i c
      cases hr
      obtain rfl := int_of S ra e1
      obtain rfl := int_of S rb e2
      exact op_mod pins s σ H _ _ u v Q I rx ry ⟨_, _, rfl, rfl, of_decide_eq_true c, q _ rfl⟩
    · cases hr
  · rename_i i j e1 e2
    split at hr
    · rename_i c
      cases hr
      obtain rfl := int_of S ra e1
      obtain rfl := int_of S rb e2
      obtain ⟨c, c3⟩ := Bool.and_eq_true_iff.mp c
      obtain ⟨c1, c2⟩ := Bool.and_eq_true_iff.mp c
      exact op_pow pins s σ H _ _ u v Q I rx ry ⟨_, _, rfl, rfl, ⟨of_decide_eq_true c1, of_decide_eq_true c2, of_decide_eq_true c3⟩, q _ rfl⟩
    · cases hr
  · rename_i xs0 ys0 e1 e2
    split at hr
    · rename_i c
      cases hr
      have ra' := tup_of S ra e1
      have rb' := tup_of S rb e2
      obtain ⟨t, xs, rfl, q1, r1⟩ := Rp.sqT ra' S.sub
      obtain ⟨b, ys, rfl, q2, r2⟩ := Rp.sqT rb' S.sub
      cases rx
      cases ry
      exact add_tup I S q1 q2 rb' ra' r1 r2 (by rw [← r1.length, ← r2.length]; exact Nat.le_trans (of_decide_eq_true c) line1m) hb
    · cases hr
  · rename_i xs0 ys0 e1 e2
    split at hr
    · rename_i c
      cases hr
      obtain ⟨t, xs, rfl, q1, r1⟩ := lst_of S ra e1
      obtain ⟨b, ys, rfl, q2, r2⟩ := lst_of S rb e2
      exact op_cat pins s σ H _ _ u v Q I rx ry ⟨t, b, xs, ys, rfl, rfl, q1, q2, by rw [← r1.length, ← r2.length]; exact Nat.le_trans (of_decide_eq_true c) line1m, fun p hp => put_lst S hp (r1.app r2) hb⟩
    · cases hr
  · rename_i i j e1 e2
    split at hr
    · rename_i c
      cases hr
      obtain rfl := str_of S ra e1
      obtain rfl := str_of S rb e2
      exact op_add_str pins s σ H _ _ u v Q I rx ry ⟨_, _, rfl, rfl, Nat.le_trans (of_decide_eq_true c) line1m, q _ rfl⟩
    · cases hr
  · rename_i xs0 j e1 e2
    split at hr
    · rename_i c
      cases hr
      obtain ⟨c, c3⟩ := Bool.and_eq_true_iff.mp c
      obtain ⟨c1, c2⟩ := Bool.and_eq_true_iff.mp c
      have c1 := of_decide_eq_true c1
      have c2 := of_decide_eq_true c2
      have ra' := tup_of S ra e1
      obtain ⟨t, xs, rfl, q1, r1⟩ := Rp.sqT ra' S.sub
      obtain rfl := int_of S rb e2
      cases rx
      obtain ⟨tk, rfl⟩ := ry
      exact mul_tup I S q1 ra' r1 c1 (by omega) (of_decide_eq_true c3) hb
    · cases hr
  · rename_i xs0 j e1 e2
    split at hr
    · rename_i c
      cases hr
      obtain ⟨c, c3⟩ := Bool.and_eq_true_iff.mp c
      obtain ⟨c1, c2⟩ := Bool.and_eq_true_iff.mp c
      have c1 := of_decide_eq_true c1
      have c2 := of_decide_eq_true c2
      obtain ⟨t, xs, rfl, q1, r1⟩ := lst_of S ra e1
      obtain rfl := int_of S rb e2
      exact op_rep pins s σ H _ _ u v Q I rx ry ⟨t, _, xs, rfl, rfl, q1, by omega, by omega, by rw [← r1.length]; exact Nat.le_trans (of_decide_eq_true c3) line1m, fun p hp => put_lst S hp (r1.rep _) hb⟩
    · cases hr
  · cases hr
end
end Ev
end
section
set_option Elab.async false
set_option linter.all false
set_option maxRecDepth 100000
set_option maxHeartbeats 1000003
namespace Ev
open PySem PySem.Spec PyProof.Rows L2
variable [Gh]
section
variable {K : PySem.W.Frag} {mg : Str → Option Value} {FF : List (Addr × HO)} {H : Hp} {W : Vw} {μ : List Addr} {st : Sto} {d : D} {x : V}
theorem toPy_pure {d : D} {p : PyData} (h : toPy d = some p) : notMut d = true := by
  cases d <;> first | rfl | (simp [toPy] at h)
mutual
theorem Rp.dp {W : Vw} : ∀ {d : D} {v : V} {p : PyData}, Rp K mg W d v → toPy d = some p → Dp K W.G v p
  | .non, _, _, r, h => by
    simp only [Rp] at r
    subst r
    simp only [toPy, Option.some.injEq] at h
    subst h
    exact .non
  | .bl b, _, _, r, h => by
    simp only [Rp] at r
    subst r
    simp only [toPy, Option.some.injEq] at h
    subst h
    exact .bl b
  | .int i, _, _, r, h => by
    simp only [Rp] at r
    subst r
    simp only [toPy, Option.some.injEq] at h
    subst h
    exact .int i
  | .str z, _, _, r, h => by
    simp only [Rp] at r
    subst r
    simp only [toPy, Option.some.injEq] at h
    subst h
    exact .str z
  | .tup ds, _, _, r, h => by
    simp only [Rp] at r
    obtain ⟨a, vs, rfl, q, r⟩ := r
    simp only [toPy, Option.map_eq_some_iff] at h
    obtain ⟨ps, h, rfl⟩ := h
    exact .tup q (Rps.dp r h)
  | .lst ds, _, _, r, h => by
    simp only [Rp] at r
    obtain ⟨a, vs, rfl, q, r⟩ := r
    simp only [toPy, Option.map_eq_some_iff] at h
    obtain ⟨ps, h, rfl⟩ := h
    exact .lst (SqL.of q) (Rps.dp r h)
  | .scr ns, _, _, _, h => by simp [toPy] at h
  | .dct ks ds, _, _, _, h => by simp [toPy] at h
  | .obj c fs ds, _, _, _, h => by simp [toPy] at h
  | .fn f, _, _, _, h => by simp [toPy] at h
  | .clo _, _, _, _, h => by simp [toPy] at h
  | .mu _, _, _, _, h => by simp [toPy] at h
theorem Rps.dp {W : Vw} : ∀ {ds : List D} {vs : List V} {ps : List PyData}, Rps K mg W ds vs → toPys ds = some ps → DpAll K W.G vs ps
  | [], _, _, r, h => by
    simp only [Rps] at r
    subst r
    simp only [toPys, Option.some.injEq] at h
    subst h
    exact .nil
  | d :: ds, _, _, r, h => by
    simp only [Rps] at r
    obtain ⟨v, q, rfl, r1, r2⟩ := r
    simp only [toPys] at h
    split at h
    · rename_i d' e1
      split at h
      · rename_i ds' e2
        cases h
        exact .cons (Rp.dp r1 e1) (Rps.dp r2 e2)
      · cases h
    · cases h
end
theorem getK_rp {W : Vw} {k : Ky} : ∀ {ks : List Ky} {ds : List D} {vs : List V}, Rps K mg W ds vs → ks.length = ds.length →
    (getK ks ds k = none → valV (ks.zip vs) k = none) ∧ ∀ d, getK ks ds k = some d → ∃ v, valV (ks.zip vs) k = some v ∧ Rp K mg W d v
  | [], _, _, r, l => by
    refine ⟨fun _ => by simp [valV], fun d h => ?_⟩
    cases h
  | k' :: ks, [], _, r, l => by simp at l
  | k' :: ks, d' :: ds, _, r, l => by
    simp only [Rps] at r
    obtain ⟨v, q, rfl, r1, r2⟩ := r
    have ih := getK_rp (k := k) r2 (by simpa using l)
    rw [List.zip_cons_cons]
    unfold getK
    by_cases h : k' = k
    · rw [if_pos h, valV_pos (p := (k', v)) h]
      refine ⟨fun e => (by cases e), fun d e => ?_⟩
      cases e
      exact ⟨v, rfl, r1⟩
    · rw [if_neg h, valV_neg (p := (k', v)) h]
      exact ih
theorem putK_mem {ks : List Ky} {ds : List D} {k : Ky} {d : D} : ∀ {y : Ky}, ks.length = ds.length → y ∈ (putK ks ds k d).1 → y ∈ ks ∨ y = k := by
  induction ks generalizing ds with
  | nil =>
    intro y l h
    cases ds with
    | nil => simp [putK] at h; exact .inr h
    | cons _ _ => simp at l
  | cons k' ks ih =>
    intro y l h
    cases ds with
    | nil => simp at l
    | cons d' ds =>
      unfold putK at h
      by_cases e : k' = k
      · rw [if_pos e] at h
        exact .inl h
      · rw [if_neg e] at h
        rcases List.mem_cons.mp h with h | h
        · exact .inl (by rw [h]; exact List.mem_cons_self ..)
        · rcases ih (by simpa using l) h with h | h
          · exact .inl (List.mem_cons_of_mem _ h)
          · exact .inr h
theorem any_no {ks : List Ky} {vs : List V} {k : Ky} (h : k ∉ ks) : ((ks.zip vs).any fun kv => decide (kv.1 = k)) = false := by
  rw [List.any_eq_false]
  intro p hp
  have := (List.of_mem_zip hp).1
  simp only [decide_eq_true_eq]
  intro e
  exact h (e ▸ this)
theorem map_no {ks : List Ky} {vs : List V} {k : Ky} {v : V} (h : k ∉ ks) : ((ks.zip vs).map fun kv => if kv.1 = k then (kv.1, v) else kv) = ks.zip vs := by
  refine (List.map_congr_left (g := id) fun p hp => ?_).trans (List.map_id _)
  have := (List.of_mem_zip hp).1
  rw [if_neg (fun (e : p.1 = k) => h (by rw [← e]; exact this))]
  rfl
theorem putK_rp {W : Vw} {k : Ky} {d : D} {v : V} (q : Rp K mg W d v) : ∀ {ks : List Ky} {ds : List D} {vs : List V}, Rps K mg W ds vs → ks.length = ds.length → ks.Nodup →
    ∃ vs', L2.putK (ks.zip vs) k v = (putK ks ds k d).1.zip vs' ∧ Rps K mg W (putK ks ds k d).2 vs' ∧ (putK ks ds k d).1.length = (putK ks ds k d).2.length ∧ (putK ks ds k d).1.Nodup
  | [], [], vs, r, l, n => by
    simp only [Rps] at r
    subst r
    exact ⟨[v], by simp [L2.putK, putK], by simp only [putK]; exact Rps.cons q Rps.nil, by simp [putK], by simp [putK]⟩
  | [], _ :: _, _, r, l, n => by simp at l
  | _ :: _, [], _, r, l, n => by simp at l
  | k' :: ks, d' :: ds, _, r, l, n => by
    simp only [Rps] at r
    obtain ⟨u, vs, rfl, r1, r2⟩ := r
    have n' := List.nodup_cons.mp n
    by_cases h : k' = k
    · refine ⟨v :: vs, ?_, ?_, ?_, ?_⟩ <;> unfold putK <;> rw [if_pos h]
      · show L2.putK _ k v = _
        unfold L2.putK
        rw [List.zip_cons_cons, List.zip_cons_cons, List.any_cons, decide_eq_true h, Bool.true_or, if_pos rfl, List.map_cons, if_pos h, map_no (h ▸ n'.1)]
      · exact Rps.cons q r2
      · simpa using l
      · exact n
    · obtain ⟨vs', e1, e2, e3, e4⟩ := putK_rp (k := k) q r2 (by simpa using l) n'.2
      refine ⟨u :: vs', ?_, ?_, ?_, ?_⟩ <;> unfold putK <;> rw [if_neg h]
      · show L2.putK _ k v = _
        rw [List.zip_cons_cons, List.zip_cons_cons, ← e1]
        unfold L2.putK
        rw [List.any_cons, decide_eq_false h, Bool.false_or]
        split
        · rw [List.map_cons, if_neg h]
        · rfl
      · exact Rps.cons r1 e2
      · simp [e3]
      · refine List.nodup_cons.mpr ⟨fun m => ?_, e4⟩
        rcases putK_mem (by simpa using l) m with m | m
        · exact n'.1 m
        · exact h m
theorem keyD_rp {W : Vw} {d : D} {k : Ky} {v : V} (h : keyD d = some k) (r : Rpa K mg W μ d v) : v = kV k := by
  cases d <;> first | (simp [keyD] at h; done) | skip
  · simp only [keyD, Option.some.injEq] at h
    subst h
    exact r
  · simp only [keyD, Option.some.injEq] at h
    subst h
    exact r
theorem ixN_eq (n : Nat) (i : Int) : L2.ixN n i = ixN n i := rfl
theorem atI_rp {W : Vw} {ds : List D} {vs : List V} {i : Int} {d : D} (r : Rps K mg W ds vs) (h : atI ds i = some d) : ∃ v, L2.atI vs i = some v ∧ Rp K mg W d v := by
  unfold atI at h
  split at h
  · rename_i j e
    obtain ⟨v, h1, h2⟩ := r.get h
    refine ⟨v, ?_, h2⟩
    unfold L2.atI
    rw [ixN_eq, ← r.length, e]
    exact h1
  · cases h
end
section
variable {X : Cx} {WE : WX} {pins : List (Addr × Obj)} {s : Shared} {σ τ : L2.St} {H : Hp} {W : Vw} {μ : List Addr} {st : Sto} {FF : List (Addr × HO)} {Q : VK} {u v : Value} {x y : V} {a b : D}
/-- the room a frame has -/
theorem opB_pt {o : Option Bool} (h : Pt X.K X.mg WE (relB) FF τ W μ (opB o st) (fun b => Q (.bl b))) (S : SA X.K X.mg FF H W μ st) : ∃ r, o = some r ∧ Q (.bl r) H := by
  unfold opB at h
  cases o with
  | none => exact False.elim h
  | some r => exact ⟨r, rfl, h r H W μ S (Ex2.refl _ _) rfl⟩
theorem cmp_ok {op : CmpOp} (hu : X.A.units + 65 < cLine) (I : Inv X pins σ H s) (S : SA X.K X.mg FF H W μ st) (ra : Rpa X.K X.mg W μ a x) (rb : Rpa X.K X.mg W μ b y) (rx : RelV x u) (ry : RelV y v)
    (h : Pt X.K X.mg WE relB FF τ W μ (cmpD op a b st) (fun b => Q (.bl b))) :
    wpAny (model X.prog X.w) X.A (compareOp op u v) (EP X pins σ Q) X.xe s := by
  obtain ⟨r, hr, q⟩ := opB_pt (Q := Q) h S
  have eqq : ∀ {r : Bool}, eqD (thD a st) (thD b st) = some r → ∃ d e, Dp X.K H x d ∧ Dp X.K H y e ∧ SeqAt.shaped d = true ∧ SeqAt.shaped e = true ∧ r = PyData.eqv d e := by
    intro r hr
    unfold eqD at hr
    split at hr
    · rename_i p p' e1 e2
      split at hr
      · rename_i c
        cases hr
        obtain ⟨c1, c2⟩ := Bool.and_eq_true_iff.mp c
        exact ⟨p, p', Rp.dp (S.th ra (toPy_pure e1)) e1, Rp.dp (S.th rb (toPy_pure e2)) e2, c1, c2, rfl⟩
      · cases hr
    · cases hr
  have eqs : ∀ {r : Bool}, eqS (thD a st) (thD b st) = some r → (scal x y = true ∧ r = decide (x = y)) ∨ eqD (thD a st) (thD b st) = some r := by
    intro r hr
    unfold eqS at hr
    cases e1 : thD a st with
    | str z =>
      cases e2 : thD b st with
      | str z2 =>
        rw [e1, e2] at hr
        have r1 := S.th ra (by rw [e1]; rfl)
        have r2 := S.th rb (by rw [e2]; rfl)
        rw [e1] at r1
        rw [e2] at r2
        simp only [Rp] at r1 r2
        subst r1 r2
        refine .inl ⟨rfl, ?_⟩
        have hr' : some (decide (z = z2)) = some r := hr
        rw [← Option.some.inj hr']
        by_cases e : z = z2 <;> simp [e]
      | _ => rw [e1, e2] at hr; exact .inr hr
    | _ => rw [e1] at hr; exact .inr (by first | exact hr | (rw [← e1]; rw [e1]; exact hr))
  have inn : ∀ {r : Bool}, conD (thD a st) (thD b st) = some r → ∀ (neg : Bool) (q : Q (.bl (if neg then !r else r)) H),
      wpAny (model X.prog X.w) X.A (compareOp (if neg then .NotIn else .In) u v) (EP X pins σ Q) X.xe s := by
    intro r hr neg q
    unfold conD at hr
    split at hr
    · rename_i ys eb
      unfold inD at hr
      split at hr
      · rename_i p ps e1 e2
        split at hr
        · rename_i c
          obtain ⟨c, c3⟩ := Bool.and_eq_true_iff.mp c
          obtain ⟨c1, c2⟩ := Bool.and_eq_true_iff.mp c
          cases hr
          have d1 := Rp.dp (S.th ra (toPy_pure e1)) e1
          have d2 := Rp.dp (S.th rb (by rw [eb]; rfl)) (p := .tuple ps) (by rw [eb]; simp [toPy, e2])
          obtain ⟨as, r1⟩ := Dp.reads I p x u d1 rx
          obtain ⟨bs, r2⟩ := Dp.reads I (.tuple ps) y v d2 ry
          cases neg with
          | false => exact SeqAt.in_tuple_reads r2 r1 (SeqAt.canLay_of_shaped c3) (SeqAt.canLay_of_shaped c1) (room_in_shaped c1 hu) ⟨.bl _, H, I, rfl, q⟩
          | true => exact SeqAt.notIn_tuple_reads r2 r1 (SeqAt.canLay_of_shaped c3) (SeqAt.canLay_of_shaped c1) (room_in_shaped c1 hu) ⟨.bl _, H, I, rfl, q⟩
        · cases hr
      · cases hr
    · rename_i ys eb
      unfold inD at hr
      split at hr
      · rename_i p ps e1 e2
        split at hr
        · rename_i c
          obtain ⟨c, c3⟩ := Bool.and_eq_true_iff.mp c
          obtain ⟨c1, c2⟩ := Bool.and_eq_true_iff.mp c
          cases hr
          have d1 := Rp.dp (S.th ra (toPy_pure e1)) e1
          have d2 := Rp.dp (S.th rb (by rw [eb]; rfl)) (p := .list ps) (by rw [eb]; simp [toPy, e2])
          obtain ⟨as, r1⟩ := Dp.reads I p x u d1 rx
          obtain ⟨bs, r2⟩ := Dp.reads I (.list ps) y v d2 ry
          cases neg with
          | false => exact SeqAt.in_list_reads r2 r1 (SeqAt.canLay_of_shaped c2) (SeqAt.canLay_of_shaped c1) (room_in_shaped c1 hu) ⟨.bl _, H, I, rfl, q⟩
          | true => exact SeqAt.notIn_list_reads r2 r1 (SeqAt.canLay_of_shaped c2) (SeqAt.canLay_of_shaped c1) (room_in_shaped c1 hu) ⟨.bl _, H, I, rfl, q⟩
        · cases hr
      · cases hr
    · rename_i ks ys eb
      have rb' := S.th rb (by rw [eb]; rfl)
      rw [eb] at rb'
      simp only [Rp] at rb'
      obtain ⟨t, vs, rfl, q1, q2, q3, q4⟩ := rb'
      cases ry
      split at hr
      · rename_i k ek
        cases hr
        have ra' : Rpa X.K X.mg (W.at H) μ (thD a st) x := (S.th ra (by revert ek; cases thD a st <;> simp [keyD, notMut])).a
        have ex := keyD_rp ek ra'
        subst ex
        have g : DGet H t (kV k) (valV (ks.zip vs) k) := DGet.k q1
        have es : (valV (ks.zip vs) k).isSome = (getK ks ys k).isSome := by
          obtain ⟨g1, g2⟩ := getK_rp (k := k) q4 q2
          cases e : getK ks ys k with
          | none => rw [g1 e]; rfl
          | some d =>
            obtain ⟨z, e2, _⟩ := g2 d e
            rw [e2] <;> rfl
        cases neg with
        | false => exact d_in (by omega) I g rx fun s' I' => ⟨.bl _, H, I', rfl, by rw [es]; exact q⟩
        | true => exact d_notIn (by omega) I g rx fun s' I' => ⟨.bl _, H, I', rfl, by rw [es]; exact q⟩
      · cases hr
    · cases hr
  have lt : ∀ {r : Bool}, (match thD a st, thD b st with | .int i, .int j => ltI op i j | _, _ => none) = some r → ∃ i j, x = .int i ∧ y = .int j ∧ ltI op i j = some r := by
    intro r hr
    split at hr
    · rename_i i j e1 e2
      have ra' := S.th ra (by rw [e1]; rfl)
      have rb' := S.th rb (by rw [e2]; rfl)
      rw [e1] at ra'
      rw [e2] at rb'
      simp only [Rp] at ra' rb'
      exact ⟨i, j, ra', rb', hr⟩
    · cases hr
  have flat : ∀ {c : Bool}, (thD a st = .bl c ↔ x = .bl c) ∧ (isNon (thD a st) = decide (x = .non)) := by
    intro c
    by_cases n : notMut (thD a st) = true
    · have ra' := S.th ra n
      cases e : thD a st <;> rw [e] at ra' <;> simp only [Rp] at ra'
      · subst ra'; simp [isNon]
      · subst ra'; simp [isNon]
      · subst ra'; simp [isNon]
      · subst ra'; simp [isNon]
      · obtain ⟨_, _, rfl, _⟩ := ra'; simp [isNon]
      · obtain ⟨_, _, rfl, _⟩ := ra'; simp [isNon]
      · obtain ⟨_, rfl, _⟩ := ra'; simp [isNon]
      · obtain ⟨_, _, rfl, _⟩ := ra'; simp [isNon]
      · obtain ⟨_, _, _, _, rfl, _⟩ := ra'; simp [isNon]
      · obtain ⟨_, rfl, _⟩ := ra'; simp [isNon]
      · obtain ⟨_, _, _, _, rfl, _⟩ := ra'; simp [isNon]
    · cases a with
      | mu k =>
        obtain ⟨t, _, rfl⟩ := ra
        cases e : thD (.mu k) st with
        | mu j => simp [isNon]
        | _ => rw [e] at n; exact absurd rfl n
      | _ => exact absurd rfl n
  have isb : ∀ {c : Bool}, (u == Value.bool c) = isBl c (thD a st) := by
    intro c
    have f := flat (c := c)
    cases e : thD a st with
    | bl b =>
      have := (flat (c := b)).1.mp e
      subst this
      cases rx
      cases b <;> cases c <;> rfl
    | _ =>
      have ne : x ≠ .bl c := fun z => by
        have := f.1.mpr z
        rw [e] at this
        cases this
      cases x with
      | bl b =>
        cases rx
        cases b <;> cases c <;> first | rfl | exact absurd rfl ne
      | _ => first | (cases rx; rfl) | (obtain ⟨t, rfl⟩ := rx; rfl)
  have pb : ∀ {c : Bool}, plainIs u (.bool c) = true := by
    intro c
    cases u <;> first | rfl | (cases x <;> first | (cases rx; done) | (obtain ⟨_, rx⟩ := rx; cases rx; done))
  cases op with
  | Eq =>
    rcases eqs hr with ⟨hs, e⟩ | hr
    · exact op_eq pins s σ H x y u v Q I rx ry ⟨hs, by rw [← e]; exact q⟩
    obtain ⟨d, e, h1, h2, h3, h4, h5⟩ := eqq hr
    exact op_eqD (by omega) pins s σ H x y u v Q I rx ry ⟨d, e, h1, h2, h3, h4, by rw [← h5]; exact q⟩
  | NotEq =>
    obtain ⟨r', hr', rfl⟩ := Option.map_eq_some_iff.mp (show (eqS (thD a st) (thD b st)).map (!·) = some r from hr)
    rcases eqs hr' with ⟨hs, e⟩ | hr'
    · exact op_ne pins s σ H x y u v Q I rx ry ⟨hs, by rw [← e]; exact q⟩
    obtain ⟨d, e, h1, h2, h3, h4, h5⟩ := eqq hr'
    exact op_neD (by omega) pins s σ H x y u v Q I rx ry ⟨d, e, h1, h2, h3, h4, by rw [← h5]; exact q⟩
  | Lt =>
    obtain ⟨i, j, rfl, rfl, h⟩ := lt hr
    cases h
    exact op_lt pins s σ H _ _ u v Q I rx ry ⟨i, j, rfl, rfl, q⟩
  | LtE =>
    obtain ⟨i, j, rfl, rfl, h⟩ := lt hr
    cases h
    exact op_le pins s σ H _ _ u v Q I rx ry ⟨i, j, rfl, rfl, q⟩
  | Gt =>
    obtain ⟨i, j, rfl, rfl, h⟩ := lt hr
    cases h
    exact op_gt pins s σ H _ _ u v Q I rx ry ⟨i, j, rfl, rfl, q⟩
  | GtE =>
    obtain ⟨i, j, rfl, rfl, h⟩ := lt hr
    cases h
    exact op_ge pins s σ H _ _ u v Q I rx ry ⟨i, j, rfl, rfl, q⟩
  | Is =>
    unfold cmpO at hr
    dsimp only at hr
    split at hr
    · rename_i e
      cases hr
      have rb' := S.th rb (by rw [e]; rfl)
      rw [e] at rb'
      simp only [Rp] at rb'
      subst rb'
      exact op_isN pins s σ H _ _ u v Q I rx ry ⟨rfl, by rw [← (flat (c := true)).2]; exact q⟩
    · rename_i c e
      cases hr
      have rb' := S.th rb (by rw [e]; rfl)
      rw [e] at rb'
      simp only [Rp] at rb'
      subst rb'
      cases ry
      exact wpAny_is_plain pb ⟨.bl _, H, I, rfl, by rw [isb]; exact q⟩
    · cases hr
  | IsNot =>
    unfold cmpO at hr
    dsimp only at hr
    split at hr
    · rename_i e
      cases hr
      have rb' := S.th rb (by rw [e]; rfl)
      rw [e] at rb'
      simp only [Rp] at rb'
      subst rb'
      exact op_notN pins s σ H _ _ u v Q I rx ry ⟨rfl, by rw [← (flat (c := true)).2]; exact q⟩
    · rename_i c e
      cases hr
      have rb' := S.th rb (by rw [e]; rfl)
      rw [e] at rb'
      simp only [Rp] at rb'
      subst rb'
      cases ry
      exact wpAny_isNot_plain pb ⟨.bl _, H, I, rfl, by rw [isb]; exact q⟩
    · cases hr
  | In => exact inn hr false q
  | NotIn =>
    obtain ⟨r', hr', rfl⟩ := Option.map_eq_some_iff.mp (show (conD (thD a st) (thD b st)).map (!·) = some r from hr)
    exact inn hr' true q
end
end Ev
end
section
set_option Elab.async false
set_option linter.all false
set_option maxRecDepth 100000
set_option maxHeartbeats 1000003
namespace Ev
open PySem PySem.Spec PyProof.Rows L2
variable [Gh]
theorem toPyX_pure {d : Ev.D} {p : PyData} (h : toPyX d = some p) : notMut d = true := by
  cases d <;> first | rfl | (simp [toPyX, toPy] at h)
section
variable {X : Cx} {pins : List (Addr × Obj)} {σ : L2.St} {H : Hp} {s : Shared} {W : Vw}
/-- no list within: no address here is that of sys.modules -/
def AsOk (b : Bool) (as : List Addr) : Prop := b = true → sysModules ∉ as
mutual
theorem Rp.reads (I : Inv X pins σ H s) (sub : SubG W.G H) : ∀ (d : Ev.D) (v : V) (u : Value) (p : PyData), Rp X.K X.mg W d v → RelV v u → toPyX d = some p → ∃ as, Reads s.heap u p as ∧ AsOk (noLst d) as
  | .non, v, u, p, r, ru, h => by
    simp only [Rp] at r
    subst r
    cases ru
    simp only [toPyX, toPy, Option.some.injEq] at h
    subst h
    exact ⟨_, Reads.none, fun _ z => nomatch z⟩
  | .bl b, v, u, p, r, ru, h => by
    simp only [Rp] at r
    subst r
    cases ru
    simp only [toPyX, toPy, Option.some.injEq] at h
    subst h
    exact ⟨_, Reads.bool b, fun _ z => nomatch z⟩
  | .int i, v, u, p, r, ru, h => by
    simp only [Rp] at r
    subst r
    obtain ⟨t, rfl⟩ := ru
    simp only [toPyX, toPy, Option.some.injEq] at h
    subst h
    exact ⟨_, Reads.int i t, fun _ z => nomatch z⟩
  | .str x, v, u, p, r, ru, h => by
    simp only [Rp] at r
    subst r
    obtain ⟨t, rfl⟩ := ru
    simp only [toPyX, toPy, Option.some.injEq] at h
    subst h
    exact ⟨_, Reads.str x t, fun _ z => nomatch z⟩
  | .tup ds, v, u, p, r, ru, h => by
    obtain ⟨a, vs, rfl, q1, q2⟩ := Rp.sqT r sub
    cases ru
    simp only [toPyX] at h
    obtain ⟨ps, h2, rfl⟩ := Option.map_eq_some_iff.mp h
    obtain ⟨its, rv, ⟨o, ho, hc, n, hd⟩, _⟩ := I.tuple q1
    obtain ⟨as, hr, ha⟩ := Rps.reads I sub ds vs its ps q2 rv h2
    exact ⟨_, Reads.tuple ho hc hd hr, fun e => ha (by simpa only [noLst] using e)⟩
  | .lst ds, v, u, p, r, ru, h => by
    obtain ⟨a, vs, rfl, q1, q2⟩ := Rp.lstH r sub
    cases ru
    simp only [toPyX] at h
    obtain ⟨ps, h2, rfl⟩ := Option.map_eq_some_iff.mp h
    obtain ⟨its, rv, ⟨o, n, ho, hc, _, hd⟩, _⟩ := I.list (SqL.of q1)
    obtain ⟨as, hr, ha⟩ := Rps.reads I sub ds vs its ps q2 rv h2
    exact ⟨_, Reads.list ho hc hd hr, fun e => by simp [noLst] at e⟩
  | .dct ks ds, v, u, p, r, ru, h => by
    simp only [Rp] at r
    obtain ⟨a, vs, rfl, q, l, _, _⟩ := r
    cases ru
    match ks, ds, h with
    | [], [], h =>
      simp only [toPyX, Option.some.injEq] at h
      subst h
      obtain ⟨_, ns, ws, kv, o, es, ep, ho, hx, hd, _, he, _⟩ := I.hok a _ (sub _ _ q)
      have e0 : es.toList = [] := by
        have kv' : KV [] ws := kv
        cases kv'
        exact List.eq_nil_of_length_eq_zero he.length
      refine ⟨_, Reads.dict (as := []) (bs := []) ho hx.1 hd (by rw [e0]; exact ReadsAll.nil) (by rw [e0]; exact ReadsAll.nil), fun _ z => ?_⟩
      have : sysModules = a := by simpa using z
      rw [← this] at ns
      simp at ns
    | [], _ :: _, h => simp [toPyX, toPy] at h
    | _ :: _, _, h => simp [toPyX, toPy] at h
  | .scr ns, _, _, _, _, _, h => by simp [toPyX, toPy] at h
  | .obj c fs ds, _, _, _, _, _, h => by simp [toPyX, toPy] at h
  | .fn f, _, _, _, _, _, h => by simp [toPyX, toPy] at h
  | .clo _, _, _, _, _, _, h => by simp [toPyX, toPy] at h
  | .mu _, _, _, _, _, _, h => by simp [toPyX, toPy] at h
theorem Rps.reads (I : Inv X pins σ H s) (sub : SubG W.G H) : ∀ (ds : List Ev.D) (vs : List V) (us : List Value) (ps : List PyData), Rps X.K X.mg W ds vs → Vals vs us → toPyXs ds = some ps → ∃ as, ReadsAll s.heap us ps as ∧ AsOk (noLsts ds) as
  | [], vs, us, ps, r, rv, h => by
    simp only [Rps] at r
    subst r
    cases rv
    simp only [toPyXs, Option.some.injEq] at h
    subst h
    exact ⟨_, ReadsAll.nil, fun _ z => nomatch z⟩
  | d :: ds, vs, us, ps, r, rv, h => by
    simp only [Rps] at r
    obtain ⟨v, q, rfl, r1, r2⟩ := r
    cases rv with
    | cons ru rv =>
      simp only [toPyXs] at h
      split at h
      · rename_i p e1
        split at h
        · rename_i ps' e2
          cases h
          obtain ⟨as, h1, h2⟩ := Rp.reads I sub d v _ p r1 ru e1
          obtain ⟨bs, h3, h4⟩ := Rps.reads I sub ds q _ ps' r2 rv e2
          refine ⟨_, ReadsAll.cons h1 h3, fun e z => ?_⟩
          simp only [noLsts, Bool.and_eq_true] at e
          rcases List.mem_append.mp z with z | z
          · exact h2 e.1 z
          · exact h4 e.2 z
        · cases h
      · cases h
end
end
end Ev
end
section
set_option Elab.async false
set_option linter.all false
set_option maxRecDepth 100000
set_option maxHeartbeats 1000003
namespace Ev
open PySem PySem.Spec PyProof.Rows L2
variable [Gh]
section
variable {X : Cx} {WE : WX} {pins : List (Addr × Obj)} {s : Shared} {σ τ : L2.St} {H : Hp} {W : Vw} {μ : List Addr} {st : Sto} {FF : List (Addr × HO)} {Q : VK} {u v : Value} {x y z : V} {a b : D}
/-- a new list, a new dict, plain or changing -/
theorem new_at {p : Addr} (S : SA X.K X.mg FF H W μ st) {μ' : List Addr} (e : μ' = μ ++ [p]) : μ'[st.length]? = some p := by
  rw [e, ← S.len]
  simp
theorem alloc_lst {m : Bool} {p : Addr} {ds : List D} {vs : List V} (S : SA X.K X.mg FF H W μ st) (hp : H p = none) (r : Rps X.K X.mg W ds vs)
    (h : Pt X.K X.mg WE (relA X.K X.mg) FF τ W μ (alloc m (.lst ds) st) Q) : Q (.ref p) (upd H p (.lst vs)) := by
  cases m with
  | true => exact h _ _ W (μ ++ [p]) (S.new hp ⟨p, vs, rfl, upd_same, S.gnone hp, r⟩) ⟨LeW.refl _, [p], rfl⟩ ⟨p, new_at S rfl, rfl⟩
  | false => exact put_lst S hp r h
theorem alloc_dct {m : Bool} {p : Addr} {ks : List Ky} {ds : List D} {vs : List V} (S : SA X.K X.mg FF H W μ st) (hp : H p = none) (l : ks.length = ds.length) (n : ks.Nodup) (r : Rps X.K X.mg W ds vs)
    (h : Pt X.K X.mg WE (relA X.K X.mg) FF τ W μ (alloc m (.dct ks ds) st) Q) : Q (.ref p) (upd H p (.dK (ks.zip vs))) := by
  cases m with
  | true => exact h _ _ W (μ ++ [p]) (S.new hp ⟨p, vs, rfl, upd_same, S.gnone hp, l, n, r⟩) ⟨LeW.refl _, [p], rfl⟩ ⟨p, new_at S rfl, rfl⟩
  | false =>
    have le := LeW.put (o := .dK (ks.zip vs)) (S.gnone hp)
    refine h _ _ _ _ (S.put hp) ⟨le, [], by simp⟩ (Rp.a ?_)
    simp only [Rp]
    exact ⟨_, vs, rfl, upd_same, l, n, r.mono le⟩
end
section
variable (K : PySem.W.Frag) (mg : Str → Option Value) (WE : WX)
def rB (f : D → D → M D) : R2 := fun x y H Q => ∃ FF τ st W μ a b, SA K mg FF H W μ st ∧ Rpa K mg W μ a x ∧ Rpa K mg W μ b y ∧ Pt K mg WE (relA K mg) FF τ W μ (f a b st) Q
def rC (f : D → D → M Bool) : R2 := fun x y H Q => ∃ FF τ st W μ a b, SA K mg FF H W μ st ∧ Rpa K mg W μ a x ∧ Rpa K mg W μ b y ∧ Pt K mg WE relB FF τ W μ (f a b st) (fun b => Q (.bl b))
def rU (f : D → M D) : V → Hp → VK → Prop := fun x H Q => ∃ FF τ st W μ a, SA K mg FF H W μ st ∧ Rpa K mg W μ a x ∧ Pt K mg WE (relA K mg) FF τ W μ (f a st) Q
def rL (f : List D → M D) : List V → Hp → VK → Prop := fun xs H Q => ∃ FF τ st W μ as, SA K mg FF H W μ st ∧ Rpas K mg W μ as xs ∧ Pt K mg WE (relA K mg) FF τ W μ (f as st) Q
def rM (f : D → List D → M D) : V → List V → Hp → VK → Prop := fun x xs H Q => ∃ FF τ st W μ a as, SA K mg FF H W μ st ∧ Rpa K mg W μ a x ∧ Rpas K mg W μ as xs ∧ Pt K mg WE (relA K mg) FF τ W μ (f a as st) Q
def rS (m : Bool) : V → Option Int → Option Int → Hp → VK → Prop := fun x lo hi H Q => ∃ FF τ st W μ a, SA K mg FF H W μ st ∧ Rpa K mg W μ a x ∧ Pt K mg WE (relA K mg) FF τ W μ (cutO m a lo hi st) Q
def relU : Rl Unit Unit := fun _ _ _ _ => True
def rSet : V → V → V → Hp → (Hp → Prop) → Prop := fun x y z H Q => ∃ FF τ st W μ a b c, SA K mg FF H W μ st ∧ Rpa K mg W μ a x ∧ Rpa K mg W μ b y ∧ Rpa K mg W μ c z ∧ Pt K mg WE relU FF τ W μ (setD a b c st) (fun _ => Q)
def rTru : V → Hp → (Bool → Hp → Prop) → Prop := fun x H Q => ∃ FF st W μ a r, SA K mg FF H W μ st ∧ Rpa K mg W μ a x ∧ truD a st = some r ∧ Q r H
end
section
variable {X : Cx} {WE : WX}
theorem or_bin {op : Operator} : OpR X (binaryOp op) (rB X.K X.mg WE (binD op)) := by
  rintro pins s σ H x y v u Q I rx ry ⟨FF, τ, st, W, μ, a, b, S, ra, rb, h⟩
  exact bin_ok I S ra rb rx ry h
theorem or_cmp {op : CmpOp} (hu : X.A.units + 65 < cLine) : OpR X (compareOp op) (rC X.K X.mg WE (cmpD op)) := by
  rintro pins s σ H x y v u Q I rx ry ⟨FF, τ, st, W, μ, a, b, S, ra, rb, h⟩
  exact cmp_ok hu I S ra rb rx ry h
theorem ix_dk (hu : X.A.units + 65 < cLine) : IxR X (fun x y H Q => ∃ a v, x = .ref a ∧ DGet H a y (some v) ∧ Q v H) := by
  rintro value slice pins s σ H x y v u Q I rx ry ⟨a, w, rfl, g, q⟩ hs
  cases rx
  exact tail_any (dict_typeIs I g) PySem.F.slot_dict_getitem.lookup (d_getItem (by omega) I g ry fun w' s3 I3 rw' => ⟨w, H, I3, rw', q⟩) hs
theorem ix_get (hu : X.A.units + 65 < cLine) : IxR X (rB X.K X.mg WE getD) := by
  rintro value slice pins s σ H x y v u Q I rx ry ⟨FF, τ, st, W, μ, a, b, S, ra, rb, h⟩ hs
  unfold Ev.getD at h
  obtain ⟨r, hr, q⟩ := opD_pt h S
  unfold getO at hr
  split at hr
  · rename_i ds e
    split at hr
    · rename_i i
      have ra' := S.tt ra (by rw [e]; rfl)
      rw [e] at ra'
      obtain ⟨t, vs, rfl, q1, q2⟩ := Rp.sqT (show Rp X.K X.mg W (.tup ds) x from ra') S.sub
      obtain rfl : y = .int i := rb
      obtain ⟨w, g1, g2⟩ := atI_rp q2 hr
      exact ix_tup value slice pins s σ H _ _ v u Q I rx ry ⟨t, vs, i, w, rfl, rfl, q1, g1, q _ g2.a⟩ hs
    · cases hr
  · rename_i ds e
    split at hr
    · rename_i i
      have ra' := S.tt ra (by rw [e]; rfl)
      rw [e] at ra'
      obtain ⟨t, vs, rfl, q1, q2⟩ := ra'
      obtain rfl : y = .int i := rb
      obtain ⟨w, g1, g2⟩ := atI_rp q2 hr
      exact ix_list value slice pins s σ H _ _ v u Q I rx ry ⟨t, vs, i, w, rfl, rfl, SqL.of q1, g1, q _ g2.a⟩ hs
    · cases hr
  · rename_i ks ds e
    split at hr
    · rename_i k ek
      have ra' := S.tt ra (by rw [e]; rfl)
      rw [e] at ra'
      obtain ⟨t, vs, rfl, q1, q2, q3, q4⟩ := ra'
      have ey := keyD_rp ek rb
      subst ey
      obtain ⟨w, g1, g2⟩ := (getK_rp (k := k) q4 q2).2 r hr
      exact ix_dk hu value slice pins s σ H _ _ v u Q I rx ry ⟨t, w, rfl, by rw [← g1]; exact DGet.k q1, q _ g2.a⟩ hs
    · cases hr
  · cases hr
theorem set_ok (hu : X.A.units + 65 < cLine) : PSet X (rSet X.K X.mg WE) := by
  rintro pins s σ H o i w ov iv u Q I ro ri rv ⟨FF, τ, st, W, μ, a, b, c, S, ra, rb, rc, h⟩
  unfold setD at h
  cases a with
  | mu m =>
    dsimp only at h
    obtain ⟨c', st', W', S2, x', rc', h2⟩ := frz_pt S rc h
    clear h S
    have h := h2
    clear h2
    have S := S2
    clear S2
    replace ra := ra.mono x'
    replace rb := rb.mono x'
    obtain ⟨t, et, rfl⟩ := ra
    split at h
    · rename_i xs e
      obtain ⟨t', vs, q1, q2, q3, q4⟩ := S.sto m _ e
      rw [et] at q1
      cases q1
      split at h
      · rename_i k
        obtain rfl : i = .int k := rb
        split at h
        · rename_i j ej
          refine set_list pins s σ H _ _ w ov iv u Q I ro ri rv ⟨t, vs, k, j, rfl, rfl, q2, by rw [ixN_eq, ← q4.length]; exact ej, ?_⟩
          exact h () _ W' μ (S.write e rfl et ⟨t, _, rfl, upd_same, q3, q4.set rc' j⟩) (Ex2.refl _ _) trivial
        · exact False.elim h
      · exact False.elim h
    · rename_i ks xs e
      obtain ⟨t', vs, q1, q2, q3, q4, q5, q6⟩ := S.sto m _ e
      rw [et] at q1
      cases q1
      split at h
      · rename_i k ek
        split at h
        · rename_i cl
          have ey := keyD_rp ek rb
          subst ey
          obtain ⟨vs', p1, p2, p3, p4⟩ := putK_rp rc' (k := k) q6 q4 q5
          have hl : (ks.zip vs).length < sizeLine := by
            have := of_decide_eq_true cl
            have := line1m
            rw [List.length_zip]
            omega
          cases ro
          refine d_setItem (by omega) I (DPut.k q2 hl) ri rv fun s' I' => ⟨_, I', ?_⟩
          rw [p1]
          exact h () _ W' μ (S.write e rfl et ⟨t, vs', rfl, upd_same, q3, p3, p4, p2⟩) (Ex2.refl _ _) trivial
        · exact False.elim h
      · exact False.elim h
    · exact False.elim h
  | _ => exact False.elim h
theorem sIx_eq (n d : Nat) (o : Option Int) : HT.sIx n d o = sIx n d o := by
  cases o <;> rfl
theorem cut_rp {K : PySem.W.Frag} {mg : Str → Option Value} {W : Vw} {ds : List D} {vs : List V} {lo hi : Option Int} (r : Rps K mg W ds vs) : Rps K mg W (cutD ds lo hi) (cutV vs lo hi) := by
  unfold cutD cutV
  rw [r.length]
  simp only [sIx_eq]
  exact (r.drop _).take _
theorem sl_cut {m : Bool} : SlR X (rS X.K X.mg WE m) := by
  rintro pins s σ H x v vl vu lo hi sl Q I rx hs pl pu ⟨FF, τ, st, W, μ, a, S, ra, h⟩
  unfold cutO at h
  split at h
  · rename_i ds e
    have ra' := S.tt ra (by rw [e]; rfl)
    rw [e] at ra'
    have rp : Rp X.K X.mg W (.tup ds) x := ra'
    obtain ⟨t, vs, rfl, q1, q2⟩ := Rp.sqT rp S.sub
    have ql := q2.length
    refine sl_tupA pins s σ H _ v vl vu lo hi sl Q I rx hs pl pu ⟨t, vs, rfl, q1, fun hw => ?_, fun _ p hp => ?_⟩
    · refine h _ H W μ S (Ex2.refl _ _) ?_
      have : cutD ds lo hi = ds := by
        unfold cutD
        rw [← ql] at hw
        simp only [sIx_eq] at hw
        rw [hw.1, hw.2]
        simp
      rw [this]
      exact rp.a
    · have le := LeW.put (o := .tup (cutV vs lo hi)) (S.gnone hp)
      refine h _ _ _ _ (S.put hp) ⟨le, [], by simp⟩ (Rp.a ?_)
      simp only [Rp]
      exact ⟨_, _, rfl, SqT.of upd_same, (cut_rp q2).mono le⟩
  · rename_i ds e
    have ra' := S.tt ra (by rw [e]; rfl)
    rw [e] at ra'
    obtain ⟨t, vs, rfl, q1, q2⟩ := ra'
    exact sl_list pins s σ H _ v vl vu lo hi sl Q I rx hs pl pu ⟨t, vs, rfl, SqL.of q1, fun p hp => alloc_lst S hp (cut_rp q2) h⟩
  · exact False.elim h
theorem un_negD : UnR X (unaryOp .USub) (rU X.K X.mg WE fun a => match a with
    | .int i => ret (.int (-i))
    | _ => no) := by
  rintro pins s σ H x v Q I rx ⟨FF, τ, st, W, μ, a, S, ra, h⟩
  cases a with
  | int i =>
    obtain rfl : x = .int i := ra
    exact un_neg pins s σ H _ v Q I rx ⟨i, rfl, h _ H W μ S (Ex2.refl _ _) rfl⟩
  | _ => exact False.elim h
theorem tru_v {H : Hp} {x : V} {Q : Bool → Hp → Prop} (h : rTru X.K X.mg x H Q) : ∃ k, TruV X.K x H k ∧ Q k H := by
  obtain ⟨FF, st, W, μ, a, r, S, ra, e, q⟩ := h
  refine ⟨r, ?_, q⟩
  unfold truD at e
  have ra' := S.tt ra (by revert e; cases thD a st <;> simp [truO, notMut])
  have emp : ∀ {ds : List D} {vs : List V} {W : Vw}, Rps X.K X.mg W ds vs → (!ds.isEmpty) = !vs.isEmpty := fun {ds vs W} r => by
    have := r.length
    cases ds <;> cases vs <;> first | rfl | (simp at this)
  cases ed : thD a st <;> rw [ed] at e ra' <;> first | (simp [truO] at e; done) | skip
  · obtain rfl : x = .non := ra'
    simp only [truO, Option.some.injEq] at e
    exact e.symm
  · obtain rfl : x = .bl _ := ra'
    simp only [truO, Option.some.injEq] at e
    exact e.symm
  · obtain rfl : x = .int _ := ra'
    simp only [truO, Option.some.injEq] at e
    exact e.symm
  · obtain rfl : x = .str _ := ra'
    simp only [truO] at e
    split at e
    · rename_i c
      cases e
      exact ⟨Nat.le_trans (of_decide_eq_true c) line1m, rfl⟩
    · cases e
  · obtain ⟨t, vs, rfl, q1, q2⟩ := Rp.sqT (show Rp X.K X.mg W (.tup _) x from ra') S.sub
    simp only [truO, Option.some.injEq] at e
    exact .inr (.inl ⟨vs, q1, by rw [← e, emp q2]⟩)
  · obtain ⟨t, vs, rfl, q1, q2⟩ := ra'
    simp only [truO, Option.some.injEq] at e
    exact .inl ⟨vs, SqL.of q1, by rw [← e, emp q2]⟩

/-! ### built-in functions -/
theorem rpas1 {W : Vw} {μ : List Addr} {d : D} {xs : List V} (h : Rpas X.K X.mg W μ [d] xs) : ∃ x, xs = [x] ∧ Rpa X.K X.mg W μ d x := by
  obtain ⟨x, r, rfl, h1, h2⟩ := h
  obtain rfl : r = [] := h2
  exact ⟨x, rfl, h1⟩
theorem rpas2 {W : Vw} {μ : List Addr} {d e : D} {xs : List V} (h : Rpas X.K X.mg W μ [d, e] xs) : ∃ x y, xs = [x, y] ∧ Rpa X.K X.mg W μ d x ∧ Rpa X.K X.mg W μ e y := by
  obtain ⟨x, r, rfl, h1, y, r', rfl, h2, h3⟩ := h
  obtain rfl : r' = [] := h3
  exact ⟨x, y, rfl, h1, h2⟩
theorem map1 {f : D → D} {as : List D} {d : D} (h : as.map f = [d]) : ∃ a, as = [a] ∧ f a = d := by
  cases as with
  | nil => cases h
  | cons a r =>
    cases r with
    | nil => simp at h; exact ⟨a, rfl, h⟩
    | cons _ _ => simp at h
theorem map2 {f : D → D} {as : List D} {d e : D} (h : as.map f = [d, e]) : ∃ a b, as = [a, b] ∧ f a = d ∧ f b = e := by
  cases as with
  | nil => cases h
  | cons a r =>
    rw [List.map_cons] at h
    injection h with h1 h2
    obtain ⟨b, rfl, hb⟩ := map1 h2
    exact ⟨a, b, rfl, h1, hb⟩
theorem bls_of {W : Vw} : ∀ {ds : List D} {vs : List V} {bs : List Bool}, Rps X.K X.mg W ds vs → blsOf ds = some bs → vs = bs.map V.bl
  | [], _, _, r, h => by
    simp only [Rps] at r
    subst r
    simp only [blsOf, Option.some.injEq] at h
    subst h
    rfl
  | d :: ds, _, _, r, h => by
    simp only [Rps] at r
    obtain ⟨v, q, rfl, r1, r2⟩ := r
    cases d <;> first | (simp [blsOf] at h; done) | skip
    simp only [blsOf, Option.map_eq_some_iff] at h
    obtain ⟨bs, h, rfl⟩ := h
    simp only [Rp] at r1
    rw [bls_of r2 h, r1]
    rfl
theorem ints_of {W : Vw} : ∀ {ds : List D} {vs : List V} {bs : List Int}, Rps X.K X.mg W ds vs → intsOf ds = some bs → vs = bs.map V.int
  | [], _, _, r, h => by
    simp only [Rps] at r
    subst r
    simp only [intsOf, Option.some.injEq] at h
    subst h
    rfl
  | d :: ds, _, _, r, h => by
    simp only [Rps] at r
    obtain ⟨v, q, rfl, r1, r2⟩ := r
    cases d <;> first | (simp [intsOf] at h; done) | skip
    simp only [intsOf, Option.map_eq_some_iff] at h
    obtain ⟨bs, h, rfl⟩ := h
    simp only [Rp] at r1
    rw [ints_of r2 h, r1]
    rfl
def bfV : Bf → Value
  | .len => .builtin "len"
  | .repr => .builtin "repr"
  | .int => .type "int"
  | .abs => .builtin "abs"
  | .max => .builtin "max"
  | .gcd => .builtin "math.gcd"
  | .str => .type "str"
  | .tuple => .type "tuple"
  | .all => .builtin "all"
  | .any => .builtin "any"
  | .sum => .builtin "sum"
theorem cr_bi {b : Bf} (hc : X.calm = true) (hg : X.A.guards = some []) (hu : X.A.units + 80 < cLine) : CallR X (bfV b) (rL X.K X.mg WE (biD b)) := by
  rintro pins s σ H xs us Q I rs ⟨FF, τ, st, W, μ, as, S, ra, h⟩
  unfold biD at h
  obtain ⟨r, hr, q⟩ := opD_pt h S
  have seq : ∀ {d : D} {ys : List D}, as.map (thD · st) = [d] → itemsO d = some ys → ∃ t vs, xs = [.ref t] ∧ (SqT X.K H t vs ∨ SqL X.K H t vs) ∧ Rps X.K X.mg W ys vs ∧ (SqT X.K H t vs → ∀ z, d = .tup z → Rpa X.K X.mg W μ d (.ref t)) := by
    intro d ys e1 e2
    obtain ⟨a, rfl, rfl⟩ := map1 e1
    obtain ⟨x, rfl, r1⟩ := rpas1 ra
    have r2 := S.tt r1 (itemsO_nm e2)
    obtain ⟨t, vs, rfl, q1, q2⟩ := items_rp S.sub r2 e2
    refine ⟨t, vs, rfl, q1, q2, fun _ z ez => ?_⟩
    rw [ez] at r2 ⊢
    exact (show Rp X.K X.mg W (.tup z) (.ref t) from r2).a
  cases b <;> simp only [biO] at hr
  case len =>
    split at hr
    · rename_i z e
      split at hr
      · rename_i c
        cases hr
        obtain ⟨a, rfl, e'⟩ := map1 e
        obtain ⟨x, rfl, r1⟩ := rpas1 ra
        obtain rfl := str_of S r1 e'
        exact call_len_str pins s σ H _ us Q I rs ⟨z, rfl, Nat.le_trans (of_decide_eq_true c) line1m, q _ rfl⟩
      · cases hr
    · rename_i ks ds e
      cases hr
      obtain ⟨a, rfl, e'⟩ := map1 e
      obtain ⟨x, rfl, r1⟩ := rpas1 ra
      obtain ⟨t, vs, rfl, q1, q2, q3, q4⟩ := dct_of S r1 e'
      rw [Vals.ref1 rs]
      refine d_len I (.inl q1) fun t s' I' => ⟨.int _, H, I', ⟨t, rfl⟩, ?_⟩
      have : (ks.zip vs).length = ks.length := by
        have := q4.length
        rw [List.length_zip]
        omega
      rw [this]
      exact q _ rfl
    · rename_i d _ _ e
      obtain ⟨ys, e2, rfl⟩ := Option.map_eq_some_iff.mp hr
      obtain ⟨t, vs, rfl, q1, q2, _⟩ := seq e e2
      exact call_len_seq pins s σ H _ us Q I rs ⟨t, vs, rfl, q1.symm, by rw [← q2.length]; exact q _ rfl⟩
    · cases hr
  case repr =>
    split at hr
    · rename_i d e
      obtain ⟨z, e2, rfl⟩ := Option.map_eq_some_iff.mp hr
      obtain ⟨a, rfl, e'⟩ := map1 e
      obtain ⟨x, rfl, r1⟩ := rpas1 ra
      unfold reprD at e2
      split at e2
      · rename_i p ep
        split at e2
        · rename_i c
          cases e2
          obtain ⟨c, c4⟩ := Bool.and_eq_true_iff.mp c
          obtain ⟨c, c3⟩ := Bool.and_eq_true_iff.mp c
          obtain ⟨c1, c2⟩ := Bool.and_eq_true_iff.mp c
          have c1 := Nat.le_trans (of_decide_eq_true c1) line1m
          have c3 := of_decide_eq_true c3
          have r2 := S.th r1 (by rw [e']; exact toPyX_pure ep)
          rw [e'] at r2
          obtain ⟨u, rfl, ru⟩ := vals1 rs
          have q' : ∀ {s' : Shared} {t : Tok}, Inv X pins σ H s' → EP X pins σ Q (.str p.shown t) s' := fun {s' t} I' => ⟨.str p.shown, H, I', ⟨t, rfl⟩, q _ rfl⟩
          obtain ⟨as, rd, has⟩ := Rp.reads I (W := W.at H) (SubG.refl H) _ x u p r2 ru ep
          have nd : p.hasDict = true → sysModules ∉ as := fun z => has (by
            rw [z] at c4
            simpa using c4)
          have big : ∀ {t : Addr}, u = .ref t → wpAny (model X.prog X.w) X.A (call (.builtin "repr") [u]) (EP X pins σ Q) X.xe s := fun {t} eu => by
            subst eu
            exact repr_of_reads' rd c2 nd hg (by omega) (fun _ _ h => h) (fun h' u tk hk => q' (I.kept hk)) c1
          cases rd with
          | none => exact P.repr_of_none (q' (I.tok _))
          | bool b =>
            have := @q' { s with toks := s.toks + 1 } s.toks (I.tok _)
            exact P.repr_of_bool (by cases b <;> exact this)
          | int i t => exact P.repr_of_int (by simpa [PyData.showable] using c2) (q' (I.tok _))
          | str z t => exact P.repr_of_str (q' (I.tok _)) c1
          | list _ _ _ _ => exact big rfl
          | tuple _ _ _ _ => exact big rfl
          | dict _ _ _ _ _ => exact big rfl
        · cases e2
      · cases e2
    · cases hr
  case int =>
    split at hr
    · rename_i i e
      cases hr
      obtain ⟨a, rfl, e'⟩ := map1 e
      obtain ⟨x, rfl, r1⟩ := rpas1 ra
      obtain rfl := int_of S r1 e'
      exact call_int1 pins s σ H _ us Q I rs (.inl ⟨i, rfl, q _ rfl⟩)
    · cases hr
  case abs =>
    split at hr
    · rename_i i e
      cases hr
      obtain ⟨a, rfl, e'⟩ := map1 e
      obtain ⟨x, rfl, r1⟩ := rpas1 ra
      obtain rfl := int_of S r1 e'
      exact call_abs pins s σ H _ us Q I rs ⟨i, rfl, q _ rfl⟩
    · cases hr
  case max =>
    split at hr
    · rename_i i j e
      cases hr
      obtain ⟨a, b, rfl, e1, e2⟩ := map2 e
      obtain ⟨x, y, rfl, r1, r2⟩ := rpas2 ra
      obtain rfl := int_of S r1 e1
      obtain rfl := int_of S r2 e2
      exact call_max2 hc pins s σ H _ us Q I rs ⟨i, j, rfl, q _ rfl⟩
    · cases hr
  case gcd =>
    split at hr
    · rename_i i j e
      cases hr
      obtain ⟨a, b, rfl, e1, e2⟩ := map2 e
      obtain ⟨x, y, rfl, r1, r2⟩ := rpas2 ra
      obtain rfl := int_of S r1 e1
      obtain rfl := int_of S r2 e2
      exact cr_gcd pins s σ H _ us Q I rs ⟨i, j, rfl, q _ rfl⟩
    · cases hr
  case str =>
    split at hr
    · rename_i i e
      split at hr
      · rename_i c
        cases hr
        obtain ⟨a, rfl, e'⟩ := map1 e
        obtain ⟨x, rfl, r1⟩ := rpas1 ra
        obtain rfl := int_of S r1 e'
        exact call_str_int pins s σ H _ us Q I rs ⟨i, rfl, of_decide_eq_true c, q _ rfl⟩
      · cases hr
    · cases hr
  case tuple =>
    split at hr
    · rename_i d e
      obtain ⟨ys, e2, rfl⟩ := Option.map_eq_some_iff.mp hr
      have hb : Pt X.K X.mg WE (relA X.K X.mg) FF τ W μ (opD (some (.tup ys)) st) Q := by
        have eb : biO .tuple (as.map (thD · st)) = some (.tup ys) := by
          rw [e]
          simp only [biO, e2, Option.map_some]
        rw [eb] at h
        exact h
      obtain ⟨a, rfl, e'⟩ := map1 e
      obtain ⟨x, rfl, r1⟩ := rpas1 ra
      have newt : ∀ {vs : List V} {l : Addr}, Rps X.K X.mg W ys vs → H l = none → Q (.ref l) (upd H l (.tup vs)) := fun {vs l} r hl => by
        have le := LeW.put (o := .tup vs) (S.gnone hl)
        refine hb _ _ _ _ (S.put hl) ⟨le, [], by simp⟩ (Rp.a ?_)
        simp only [Rp]
        exact ⟨_, _, rfl, SqT.of upd_same, r.mono le⟩
      have r2 := S.tt r1 (by rw [e']; exact itemsO_nm e2)
      rw [e'] at r2
      cases d <;> first | (simp [itemsO] at e2; done) | skip
      · simp only [itemsO, Option.some.injEq] at e2
        subst e2
        have r3 : Rp X.K X.mg W (.tup _) x := r2
        obtain ⟨t, vs, rfl, q1, q2⟩ := Rp.sqT r3 S.sub
        exact call_tuple_of pins s σ H _ us Q I rs ⟨t, vs, rfl, .inr ⟨q1, q _ r3.a⟩⟩
      · simp only [itemsO, Option.some.injEq] at e2
        subst e2
        obtain ⟨t, vs, rfl, q1, q2⟩ := r2
        exact call_tuple_of pins s σ H _ us Q I rs ⟨t, vs, rfl, .inl ⟨SqL.of q1, fun l hl => newt q2 hl⟩⟩
      · simp only [itemsO, Option.some.injEq] at e2
        subst e2
        have r3 : Rp X.K X.mg W (.scr _) x := r2
        simp only [Rp] at r3
        obtain ⟨t, rfl, q1⟩ := r3
        exact call_tuple_of pins s σ H _ us Q I rs ⟨t, _, rfl, .inl ⟨sqL_sub S.sub q1, fun l hl => newt (Rps.of_ints _) hl⟩⟩
    · cases hr
  case all =>
    split at hr
    · rename_i ds e
      obtain ⟨bs, e2, rfl⟩ := Option.map_eq_some_iff.mp hr
      obtain ⟨a, rfl, e'⟩ := map1 e
      obtain ⟨x, rfl, r1⟩ := rpas1 ra
      obtain ⟨t, vs, rfl, q1, q2⟩ := lst_of S r1 e'
      obtain rfl := bls_of q2 e2
      exact cr_all hc pins s σ H _ us Q I rs ⟨t, bs, rfl, SqL.of q1, q _ rfl⟩
    · cases hr
  case any =>
    split at hr
    · rename_i ds e
      obtain ⟨bs, e2, rfl⟩ := Option.map_eq_some_iff.mp hr
      obtain ⟨a, rfl, e'⟩ := map1 e
      obtain ⟨x, rfl, r1⟩ := rpas1 ra
      obtain ⟨t, vs, rfl, q1, q2⟩ := lst_of S r1 e'
      obtain rfl := bls_of q2 e2
      exact cr_any hc pins s σ H _ us Q I rs ⟨t, bs, rfl, SqL.of q1, q _ rfl⟩
    · cases hr
  case sum =>
    split at hr
    · rename_i ds e
      obtain ⟨bs, e2, rfl⟩ := Option.map_eq_some_iff.mp hr
      obtain ⟨a, rfl, e'⟩ := map1 e
      obtain ⟨x, rfl, r1⟩ := rpas1 ra
      obtain ⟨t, vs, rfl, q1, q2⟩ := lst_of S r1 e'
      obtain rfl := ints_of q2 e2
      exact cr_sum hc pins s σ H _ us Q I rs ⟨t, bs, rfl, SqL.of q1, q _ rfl⟩
    · cases hr
end
end Ev
end
section
set_option Elab.async false
set_option linter.all false
set_option maxRecDepth 100000
set_option maxHeartbeats 1000003
namespace Ev
open PySem PySem.Spec PyProof.Rows L2
variable [Gh]
section
variable {X : Cx} {WE : WX}
def bmV : Bm → Value
  | .list => .type "list"
  | .sorted => .builtin "sorted"
  | .dict => .type "dict"
theorem insI_perm (x : Int) : ∀ l : List Int, (insI x l).Perm (x :: l)
  | [] => .refl _
  | y :: ys => by
    unfold insI
    split
    · exact .refl _
    · exact ((insI_perm x ys).cons y).trans (.swap x y ys)
theorem sortI_perm : ∀ l : List Int, (sortI l).Perm l
  | [] => .refl _
  | x :: l => (insI_perm x (sortI l)).trans ((sortI_perm l).cons x)
theorem insI_sorted (x : Int) : ∀ l : List Int, l.Pairwise (· ≤ ·) → (insI x l).Pairwise (· ≤ ·)
  | [], _ => by simp [insI]
  | y :: ys, h => by
    unfold insI
    have h' := List.pairwise_cons.mp h
    split
    · rename_i c
      refine List.pairwise_cons.mpr ⟨fun z hz => ?_, h⟩
      rcases List.mem_cons.mp hz with e | hz
      · rw [e]; exact c
      · exact Int.le_trans c (h'.1 z hz)
    · rename_i c
      refine List.pairwise_cons.mpr ⟨fun z hz => ?_, insI_sorted x ys h'.2⟩
      rcases List.mem_cons.mp ((insI_perm x ys).mem_iff.mp hz) with e | hz
      · rw [e]; omega
      · exact h'.1 z hz
theorem sortI_sorted : ∀ l : List Int, (sortI l).Pairwise (· ≤ ·)
  | [] => .nil
  | x :: l => insI_sorted x _ (sortI_sorted l)
theorem sortI_uniq {l l' : List Int} (p : l'.Perm l) (s : l'.Pairwise (· ≤ ·)) : l' = sortI l :=
  List.Perm.eq_of_pairwise (le := (· ≤ ·)) (fun a b _ _ h1 h2 => Int.le_antisymm h1 h2) s (sortI_sorted l) (p.trans (sortI_perm l).symm)
theorem cr_mk {b : Bm} {m : Bool} : CallR X (bmV b) (rL X.K X.mg WE (mkD b m)) := by
  rintro pins s σ H xs us Q I rs ⟨FF, τ, st, W, μ, as, S, ra, h⟩
  unfold mkD at h
  cases b <;> simp only [mkO] at h
  case list =>
    split at h
    · rename_i o ho
      split at ho
      · rename_i d e
        obtain ⟨ys, e2, rfl⟩ := Option.map_eq_some_iff.mp ho
        obtain ⟨a, rfl, e'⟩ := map1 e
        obtain ⟨x, rfl, r1⟩ := rpas1 ra
        have r2 := S.tt r1 (by rw [e']; exact itemsO_nm e2)
        rw [e'] at r2
        obtain ⟨t, vs, rfl, q1, q2⟩ := items_rp S.sub r2 e2
        exact call_list_of pins s σ H _ us Q I rs ⟨t, vs, rfl, q1.symm, fun l hl => alloc_lst S hl q2 h⟩
      · cases ho
    · exact False.elim h
  case sorted =>
    split at h
    · rename_i o ho
      split at ho
      · rename_i ds e
        obtain ⟨is, e2, rfl⟩ := Option.map_eq_some_iff.mp ho
        obtain ⟨a, rfl, e'⟩ := map1 e
        obtain ⟨x, rfl, r1⟩ := rpas1 ra
        obtain ⟨t, vs, rfl, q1, q2⟩ := lst_of S r1 e'
        obtain rfl := ints_of q2 e2
        refine cr_sortedI pins s σ H _ us Q I rs ⟨t, is, rfl, SqL.of q1, fun ns' p h1 h2 hp => ?_⟩
        rw [sortI_uniq h1 h2]
        exact alloc_lst S hp (Rps.of_ints _) h
      · cases ho
    · exact False.elim h
  case dict =>
    split at h
    · rename_i o ho
      split at ho
      · rename_i ks ds e
        cases ho
        obtain ⟨a, rfl, e'⟩ := map1 e
        obtain ⟨x, rfl, r1⟩ := rpas1 ra
        obtain ⟨t, vs, rfl, q1, q2, q3, q4⟩ := dct_of S r1 e'
        exact call_dictD pins s σ H _ us Q I rs ⟨t, _, rfl, .inl q1, fun l hl => alloc_dct S hl q2 q3 q4 h⟩
      · cases ho
    · exact False.elim h
def meN : Me → String
  | .append => "list.append"
  | .insert => "list.insert"
  | .pop => "list.pop"
  | .bits => "int.bit_length"
theorem mu_lst {FF : List (Addr × HO)} {H : Hp} {W : Vw} {μ : List Addr} {st : Sto} {k : Nat} {x : V} {ys : List D} (S : SA X.K X.mg FF H W μ st) (r : Rpa X.K X.mg W μ (.mu k) x) (e : st[k]? = some (.lst ys)) :
    ∃ a vs, x = .ref a ∧ μ[k]? = some a ∧ H a = some (.lst vs) ∧ W.G a = none ∧ Rps X.K X.mg W ys vs := by
  obtain ⟨a, ea, rfl⟩ := r
  obtain ⟨a', vs, q1, q2, q3, q4⟩ := S.sto k _ e
  rw [ea] at q1
  cases q1
  exact ⟨a, vs, rfl, ea, q2, q3, q4⟩
theorem mt_append' : MtR X "list.append" (rM X.K X.mg WE fun a xs => metD a .append xs) := by
  rintro pins s σ H x xs v us Q I rx rs ⟨FF, τ, st, W, μ, a, as, S, ra, ras, h⟩
  unfold metD at h
  dsimp only at h
  split at h
  · rename_i k d
    obtain ⟨y, rfl, ry⟩ := rpas1 ras
    obtain ⟨d', st', W', S2, x', ry', h2⟩ := frz_pt S ry h
    clear h S
    have h := h2
    clear h2
    have S := S2
    clear S2
    split at h
    · rename_i ys e
      split at h
      · rename_i c
        obtain ⟨t, vs, rfl, et, q1, q2, q3⟩ := mu_lst S (ra.mono x') e
        refine mt_append pins s σ H _ _ v us Q I rx rs ⟨t, vs, y, rfl, rfl, q1, by have := of_decide_eq_true c; have := line1m; rw [← q3.length]; omega, ?_⟩
        exact h _ _ W' μ (S.write e rfl et ⟨t, _, rfl, upd_same, q2, q3.app (Rps.cons ry' Rps.nil)⟩) (Ex2.refl _ _) rfl
      · exact False.elim h
    · exact False.elim h
  · exact False.elim h
theorem mt_insert' : MtR X "list.insert" (rM X.K X.mg WE fun a xs => metD a .insert xs) := by
  rintro pins s σ H x xs v us Q I rx rs ⟨FF, τ, st, W, μ, a, as, S, ra, ras, h⟩
  unfold metD at h
  dsimp only at h
  split at h
  · rename_i k i d
    obtain ⟨z, y, rfl, rz, ry⟩ := rpas2 ras
    obtain ⟨d', st', W', S2, x', ry', h2⟩ := frz_pt S ry h
    clear h S
    have h := h2
    clear h2
    have S := S2
    clear S2
    split at h
    · rename_i ei
      have ei := of_decide_eq_true ei
      subst ei
      split at h
      · rename_i ys e
        split at h
        · rename_i c
          obtain ⟨t, vs, rfl, et, q1, q2, q3⟩ := mu_lst S (ra.mono x') e
          obtain rfl : z = .int 0 := rz
          refine mt_insert pins s σ H _ _ v us Q I rx rs ⟨t, vs, 0, y, rfl, rfl, q1, by have := of_decide_eq_true c; have := line1m; rw [← q3.length]; omega, by omega, by omega, ?_⟩
          exact h _ _ W' μ (S.write e rfl et ⟨t, _, rfl, upd_same, q2, by simpa using Rps.cons ry' q3⟩) (Ex2.refl _ _) rfl
        · exact False.elim h
      · exact False.elim h
    · exact False.elim h
  · exact False.elim h
theorem mt_pop' : MtR X "list.pop" (rM X.K X.mg WE fun a xs => metD a .pop xs) := by
  rintro pins s σ H x xs v us Q I rx rs ⟨FF, τ, st, W, μ, a, as, S, ra, ras, h⟩
  unfold metD at h
  dsimp only at h
  split at h
  · rename_i k i
    split at h
    · rename_i ys e
      split at h
      · rename_i j ej
        split at h
        · rename_i d ed
          obtain ⟨t, vs, rfl, et, q1, q2, q3⟩ := mu_lst S ra e
          obtain ⟨z, rfl, rz⟩ := rpas1 ras
          obtain rfl : z = .int i := rz
          obtain ⟨w, ew, rw'⟩ := q3.get ed
          rw [q3.length] at ej
          obtain ⟨h1, h2, h3, h4⟩ := ixN_seq ej
          have hl : vs.length ≤ sizeLine := (I.lstM q1).1
          have := line63
          refine mt_popAt pins s σ H _ _ v us Q I rx rs ⟨t, vs, i, j, w, rfl, rfl, q1, by omega, by omega, h1, ew, ?_⟩
          exact h _ _ W μ (S.write e rfl et ⟨t, _, rfl, upd_same, q2, q3.erase j⟩) (Ex2.refl _ _) rw'.a
        · exact False.elim h
      · exact False.elim h
    · exact False.elim h
  · exact False.elim h

/-! ### isinstance -/
structure IsaOk (K : PySem.W.Frag) (mg : Str → Option Value) (isa : Str → Str → Option Bool) : Prop where
  own : ∀ c t b C T, isa c t = some b → mg c = some (.ref C) → mg t = some (.ref T) → PySem.W.kitOne K (.ref C) (.ref T) = some b
  ty : ∀ t T, (isa t t).isSome = true → mg t = some (.ref T) → ∀ n ∈ "NoneType" :: tyNs, PySem.W.kitOne K (.type n) (.ref T) = some false
/-- a class that is asked for, as a value -/
def KdV (mg : Str → Option Value) : Kd → V → Value → Prop
  | .ty n, c, u => n ∈ tyNs ∧ c = .ty n ∧ u = .type n
  | .own t, c, u => ∃ T, mg t = some (.ref T) ∧ c = .ref T ∧ u = .ref T
theorem KdV.cls {mg : Str → Option Value} {k : Kd} {c : V} {u : Value} (h : KdV mg k c u) : ClsV c u := by
  cases k with
  | ty n =>
    obtain ⟨_, rfl, rfl⟩ := h
    exact .ty n
  | own t =>
    obtain ⟨T, _, rfl, rfl⟩ := h
    exact .own T
/-- the type of data -/
def tyD (mg : Str → Option Value) (K : PySem.W.Frag) : D → Value → Prop
  | .non, t => t = .type "NoneType"
  | .bl _, t => t = .type "bool"
  | .int _, t => t = .type "int"
  | .str _, t => t = .type "str"
  | .tup _, t => t = .type "tuple"
  | .lst _, t => t = .type "list"
  | .dct _ _, t => t = .type "dict"
  | .obj c fs _, t => ∃ C, mg c = some (.ref C) ∧ ClsOk K C fs ∧ t = .ref C
  | _, _ => False
theorem tupTy {H : Hp} {a : Addr} {vs : List V} (h : SqT X.K H a vs) : TyX X.K H (.ref a) (.type "tuple") := by
  rcases h with (h | ⟨o, h⟩) | ⟨o, its, n, h1, h2, _⟩
  · exact .base (.tup h)
  · exact .fTuple h
  · exact .kTuple h1 h2
theorem tyD_ok {W : Vw} {H : Hp} {d : D} {x : V} (sub : SubG W.G H) (r : Rpt X.K X.mg H W d x) (h : (isiB d "").isSome = true) : ∃ t, TyX X.K H x t ∧ tyD X.mg X.K d t := by
  cases d <;> first | (simp [isiB] at h; done) | skip
  · obtain rfl : x = .non := r
    exact ⟨_, .base .non, rfl⟩
  · obtain rfl : x = .bl _ := r
    exact ⟨_, .base (.bl _), rfl⟩
  · obtain rfl : x = .int _ := r
    exact ⟨_, .base (.int _), rfl⟩
  · obtain rfl : x = .str _ := r
    exact ⟨_, .base (.str _), rfl⟩
  · obtain ⟨t, vs, rfl, q1, q2⟩ := Rp.sqT (show Rp X.K X.mg W (.tup _) x from r) sub
    exact ⟨_, tupTy q1, rfl⟩
  · obtain ⟨t, vs, rfl, q1, q2⟩ := r
    exact ⟨_, .base (.lst q1), rfl⟩
  · obtain ⟨t, vs, rfl, q1, q2⟩ := r
    exact ⟨_, .base (.dK q1), rfl⟩
  · have r' : Rp X.K X.mg W (.obj _ _ _) x := r
    simp only [Rp] at r'
    obtain ⟨a, C, dx, vs, rfl, q1, q2, q3, q4, q5⟩ := r'
    exact ⟨_, .base (.ins (sub _ _ q3) q2.cl q2.ha q2.hn q2.htk q2.hm), C, q1, q2, rfl⟩
theorem kit_all {K : PySem.W.Frag} {n m : String} (hn : n ∈ "NoneType" :: tyNs) (hm : m ∈ tyNs) : PySem.W.kitOne K (.type n) (.type m) = some (n == m || (n == "bool" && m == "int")) := by
  simp only [tyNs, List.mem_cons, List.not_mem_nil, or_false] at hn hm
  rcases hn with rfl | rfl | rfl | rfl | rfl | rfl | rfl <;> rcases hm with rfl | rfl | rfl | rfl | rfl | rfl <;> exact kit_ty (by decide +kernel)
theorem kit_one {isa : Str → Str → Option Bool} (io : IsaOk X.K X.mg isa) {d : D} {t u : Value} {k : Kd} {c : V} {b : Bool} (hd : tyD X.mg X.K d t) (hk : KdV X.mg k c u) (h : isiD isa d k = some b) : PySem.W.kitOne X.K t u = some b := by
  cases k with
  | ty n =>
    obtain ⟨hn, rfl, rfl⟩ := hk
    simp only [isiD, if_pos hn] at h
    cases d <;> first | (simp [isiB] at h; done) | skip
    all_goals simp only [isiB, Option.some.injEq] at h
    case obj c' fs xs =>
      obtain ⟨C, h1, h2, rfl⟩ := hd
      rw [← h]
      exact h2.kb n hn
    all_goals
      cases hd
      rw [kit_all (by simp [tyNs]) hn, ← h]
      simp only [tyNs, List.mem_cons, List.not_mem_nil, or_false] at hn
      rcases hn with rfl | rfl | rfl | rfl | rfl | rfl <;> rfl
  | own z =>
    obtain ⟨T, hT, rfl, rfl⟩ := hk
    cases d <;> first | (simp [isiD, isiB] at h; done) | skip
    case obj c' fs xs =>
      obtain ⟨C, h1, h2, rfl⟩ := hd
      exact io.own _ _ _ _ _ h h1 hT
    all_goals
      cases hd
      simp only [isiD, isiB] at h
      split at h
      · rename_i c
        cases h
        exact io.ty _ _ c hT _ (by simp [tyNs])
      · cases h
theorem isiD_some {isa : Str → Str → Option Bool} {d : D} {k : Kd} {b : Bool} (h : isiD isa d k = some b) : (isiB d "").isSome = true := by
  cases k with
  | ty n =>
    simp only [isiD] at h
    split at h
    · cases d <;> first | rfl | (simp [isiB] at h)
    · cases h
  | own z => cases d <;> first | rfl | (simp [isiD, isiB] at h)
/-- the classes that are asked for -/
inductive KdVs (mg : Str → Option Value) : List Kd → List V → List Value → Prop where
  | nil : KdVs mg [] [] []
  | cons {k : Kd} {ks : List Kd} {c : V} {cs : List V} {u : Value} {us : List Value} (h : KdV mg k c u) (t : KdVs mg ks cs us) : KdVs mg (k :: ks) (c :: cs) (u :: us)
theorem kit_many {isa : Str → Str → Option Bool} (io : IsaOk X.K X.mg isa) {d : D} {t : Value} (hd : tyD X.mg X.K d t) : ∀ {ks : List Kd} {cs : List V} {us : List Value} {b : Bool}, KdVs X.mg ks cs us → isiAny isa d ks = some b → PySem.W.kitAny X.K t us = some b
  | _, _, _, _, .nil, h => by
    simp only [isiAny, Option.some.injEq] at h
    subst h
    rfl
  | _, _, _, _, .cons k t, h => by
    unfold isiAny at h
    split at h
    · rename_i e
      cases h
      exact kitAny_cons (kit_one io hd k e) (fun z => nomatch z) (fun _ => rfl)
    · rename_i e
      exact kitAny_cons (kit_one io hd k e) (fun _ => kit_many io hd t h) (fun z => nomatch z)
    · cases h
theorem KdVs.paired {mg : Str → Option Value} : ∀ {ks : List Kd} {cs : List V} {us : List Value}, KdVs mg ks cs us → Paired ClsV cs us
  | _, _, _, .nil => .nil
  | _, _, _, .cons h t => .cons h.cls t.paired
def isiF (isa : Str → Str → Option Bool) (ts : List Kd) (x : D) : M D := fun s => opD ((isiAny isa (thD x s) ts).map .bl) s
/-- isinstance(x, T) -/
def rI1 (K : PySem.W.Frag) (mg : Str → Option Value) (WE : WX) (isa : Str → Str → Option Bool) (k : Kd) : List V → Hp → VK → Prop := fun xs H Q => ∃ FF τ st W μ a x c u, xs = [x, c] ∧ KdV mg k c u ∧ SA K mg FF H W μ st ∧ Rpa K mg W μ a x ∧ Pt K mg WE (relA K mg) FF τ W μ (isiF isa [k] a st) Q
def rIT (K : PySem.W.Frag) (mg : Str → Option Value) (WE : WX) (isa : Str → Str → Option Bool) (ks : List Kd) : List V → Hp → VK → Prop := fun xs H Q => ∃ FF τ st W μ a x cs us tp, xs = [x, .ref tp] ∧ H tp = some (.tup cs) ∧ KdVs mg ks cs us ∧ ks ≠ [] ∧ SA K mg FF H W μ st ∧ Rpa K mg W μ a x ∧ Pt K mg WE (relA K mg) FF τ W μ (isiF isa ks a st) Q
theorem isiAny_some {isa : Str → Str → Option Bool} {d : D} {k : Kd} {ks : List Kd} {b : Bool} (h : isiAny isa d (k :: ks) = some b) : (isiB d "").isSome = true := by
  unfold isiAny at h
  split at h
  · rename_i e
    exact isiD_some e
  · rename_i e
    exact isiD_some e
  · cases h
theorem isiB_nm {d : D} (h : (isiB d "").isSome = true) : notMut d = true := by
  cases d <;> first | rfl | (simp [isiB] at h)
theorem cr_isi {isa : Str → Str → Option Bool} (io : IsaOk X.K X.mg isa) {k : Kd} : CallR X (.builtin "isinstance") (rI1 X.K X.mg WE isa k) := by
  rintro pins s σ H xs us Q I rs ⟨FF, τ, st, W, μ, a, x, c, u, rfl, hk, S, ra, h⟩
  unfold isiF at h
  obtain ⟨r, hr, q⟩ := opD_pt h S
  obtain ⟨b, eb, rfl⟩ := Option.map_eq_some_iff.mp hr
  have hs := isiAny_some eb
  obtain ⟨t, h1, h2⟩ := tyD_ok S.sub (S.tt ra (isiB_nm hs)) hs
  refine call_isi pins s σ H _ us Q I rs ⟨x, c, t, u, b, rfl, hk.cls, h1, ?_, q _ rfl⟩
  unfold isiAny at eb
  split at eb
  · rename_i e
    cases eb
    exact kit_one io h2 hk e
  · rename_i e
    simp only [isiAny, Option.some.injEq] at eb
    rw [← eb]
    exact kit_one io h2 hk e
  · cases eb
theorem cr_isiT {isa : Str → Str → Option Bool} (io : IsaOk X.K X.mg isa) {ks : List Kd} : CallR X (.builtin "isinstance") (rIT X.K X.mg WE isa ks) := by
  rintro pins s σ H xs us Q I rs ⟨FF, τ, st, W, μ, a, x, cs, ws, tp, rfl, hT, hk, hne, S, ra, h⟩
  unfold isiF at h
  obtain ⟨r, hr, q⟩ := opD_pt h S
  obtain ⟨b, eb, rfl⟩ := Option.map_eq_some_iff.mp hr
  cases ks with
  | nil => exact absurd rfl hne
  | cons k ks =>
    have hs := isiAny_some eb
    obtain ⟨t, h1, h2⟩ := tyD_ok S.sub (S.tt ra (isiB_nm hs)) hs
    exact call_isiT pins s σ H _ us Q I rs ⟨x, tp, cs, t, ws, b, rfl, hT, hk.paired, h1, kit_many io h2 hk eb, q _ rfl⟩
end
end Ev
end
section
set_option Elab.async false
set_option linter.all false
set_option maxRecDepth 100000
namespace Ev
open PySem
/-- what is known of the text a term is held against -/
structure MC where
  N : List Str
  sc : Scope
  ts : Scope
  fns : List Str
  cns : List Str
  gcd : Bool
  exn : List Str := []
  lam : Nat → Option Lam := fun _ => none
  top : Bool := false
/-- in a comprehension's block -/
def MC.blk (m : MC) (scope : Scope) : MC := { m with sc := L2.relS scope m.sc, ts := scope, top := false }
/-- in a lambda's body -/
def MC.lm (m : MC) (scope : Scope) : MC := { m with sc := scope, ts := scope, top := false }
/-- slots of captured names -/
def cellsB (m : MC) : List Nat → Bool
  | [] => true
  | i :: r => (match m.N[i]? with
    | some y => decide (m.sc.names.lookup y = some .cell)
    | none => false) && cellsB m r
/-- the lambda's names: captured ones and globals -/
def lamB (sc scope : Scope) : Bool :=
  decide (scope.kind = .function) && !scope.isCoroutine && !scope.isGenerator && scope.names.all fun y => !decide (y.2 = .local) && !decide (y.2 = .cell) && (!decide (y.2 = .free) || decide (sc.names.lookup y.1 = some .cell))
/-- a lambda without parameters -/
def noParB : Arguments → Bool
  | ⟨[], [], none, [], [], none, []⟩ => true
  | _ => false
def visB (sc : Scope) (x : Str) : Bool := match sc.names.lookup x with
  | some .local => true
  | some .cell => true
  | some .free => true
  | _ => false
def locB (sc : Scope) (x : Str) : Bool := match sc.names.lookup x with
  | some .local => true
  | some .cell => true
  | _ => false
def glB (sc : Scope) (x : Str) : Bool := decide (sc.names.lookup x = some .globalImplicit)
def undB (x : Str) : Bool := !(x == ("__debug__" : Str)) && !(x == ("__classdict__" : Str)) && !decide (x = "__name__")
def varB (m : MC) (i : Nat) (x : Str) : Bool := decide (m.N[i]? = some x) && visB m.sc x && undB x
def tgtB (m : MC) (i : Nat) (x : Str) : Bool := decide (m.N[i]? = some x) && locB m.ts x
def gloB (m : MC) (x y : Str) : Bool := decide (x = y) && glB m.sc x && undB x
def nst : Expr → Bool
  | .Starred .. => false
  | _ => true
def nbt : Expr → Bool
  | .UnaryOp .Not _ _ => false
  | .BoolOp .. => false
  | .IfExp .. => false
  | .Compare .. => false
  | _ => true
def nsl : Expr → Bool
  | .Slice .. => false
  | _ => true
def nset : Expr → Bool
  | .Set .. => false
  | _ => true
def nsup : Expr → Bool
  | .Call _ [] [] _ => false
  | _ => true
def nlc : Expr → Bool
  | .ListComp .. => false
  | .SetComp .. => false
  | .DictComp .. => false
  | _ => true
def bfN : Bf → Str
  | .len => "len"
  | .repr => "repr"
  | .int => "int"
  | .abs => "abs"
  | .max => "max"
  | .gcd => "gcd"
  | .str => "str"
  | .tuple => "tuple"
  | .all => "all"
  | .any => "any"
  | .sum => "sum"
def bmN : Bm → Str
  | .list => "list"
  | .sorted => "sorted"
  | .dict => "dict"
def meS : Me → Str
  | .append => "append"
  | .insert => "insert"
  | .pop => "pop"
  | .bits => "bit_length"
def kdB (m : MC) : Kd → Expr → Bool
  | .ty n, .Name x _ => decide (n ∈ tyNs) && gloB m (Str.ofString n) x
  | .own t, .Name x _ => gloB m t x && m.cns.contains t
  | _, _ => false
def kdsB (m : MC) : List Kd → List Expr → Bool
  | [], [] => true
  | k :: ks, x :: xs => kdB m k x && kdsB m ks xs
  | _, _ => false
def cstB : Cst → Const → Bool
  | .non, .none => true
  | .bl b, .bool c => b == c
  | .int i, .int j => decide (i = j)
  | .str x, .str y => decide (x = y)
  | _, _ => false
def keyB : Ky → Option Expr → Bool
  | .inl i, some (.Constant (.int j) _ _) => decide (i = j)
  | .inr x, some (.Constant (.str y) _ _) => decide (x = y)
  | _, _ => false
def keysB : List Ky → List (Option Expr) → Bool
  | [], [] => true
  | k :: ks, x :: xs => keyB k x && keysB ks xs
  | _, _ => false
/-- a store's list that is also its iterable's: stored ahead of the block's end -/
def swB (sc : Scope) : Expr → Expr → Bool
  | .ListComp _ _ s p, .Name t q => decide (sc.names.lookup t = some .local) && (q.line == p.line) && !(s.names.any fun (n, k) => n == t && (k == .local || k == .cell))
  | _, _ => false
mutual
def mtE (m : MC) (c : E) (a : Expr) : Bool := match c with
  | .c k => (match a with
    | .Constant v _ _ => cstB k v
    | _ => false)
  | .v i => (match a with
    | .Name x _ => varB m i x
    | _ => false)
  | .g x => (match a with
    | .Name y _ => gloB m x y
    | _ => false)
  | .tup es => (match a with
    | .Tuple xs _ _ => mtEs m es xs && decide (xs.length ≤ 100000)
    | _ => false)
  | .lst _ es => (match a with
    | .List xs _ => mtEs m es xs && decide (xs.length ≤ 100000)
    | _ => false)
  | .dct _ ks es => (match a with
    | .Dict kx vx _ => keysB ks kx && mtEs m es vx && decide (kx.length = vx.length) && decide (kx.length ≤ 15)
    | _ => false)
  | .bin op x y => (match a with
    | .BinOp p o q _ => decide (op = o) && mtE m x p && mtE m y q
    | _ => false)
  | .neg x => (match a with
    | .UnaryOp .USub p _ => mtE m x p
    | _ => false)
  | .cmp op x y => (match a with
    | .Compare p [o] [q] _ => decide (op = o) && mtE m x p && mtE m y q && nset q
    | _ => false)
  | .chain op op' x y z => (match a with
    | .Compare p [o, o'] [q, r] _ => decide (op = o) && decide (op' = o') && mtE m x p && mtE m y q && mtE m z r && nset r
    | _ => false)
  | .andv x y => (match a with
    | .BoolOp .And (p :: q :: r) pos => mtE m x p && (match r with
      | [] => mtE m y q
      | _ => mtE m y (.BoolOp .And (q :: r) pos))
    | _ => false)
  | .orv x y => (match a with
    | .BoolOp .Or (p :: q :: r) pos => mtE m x p && (match r with
      | [] => mtE m y q
      | _ => mtE m y (.BoolOp .Or (q :: r) pos))
    | _ => false)
  | .notv x => (match a with
    | .UnaryOp .Not p _ => mtE m x p
    | _ => false)
  | .ife t x y => (match a with
    | .IfExp c p q _ => mtT m t c && mtE m x p && mtE m y q
    | _ => false)
  | .ix x y => (match a with
    | .Subscript p q _ => mtE m x p && mtE m y q && nsl q
    | _ => false)
  | .sl _ x lo hi => (match a with
    | .Subscript p (.Slice l h none _) _ => mtE m x p && mtO m lo l && mtO m hi h
    | _ => false)
  | .fld x f => (match a with
    | .Attribute p g _ => mtE m x p && decide (f = g) && nsup p
    | _ => false)
  | .call f es => (match a with
    | .Call (.Name x _) xs [] _ => gloB m f x && m.fns.contains f && mtEs m es xs
    | _ => false)
  | .mk f es => (match a with
    | .Call (.Name x _) xs [] _ => gloB m f x && m.fns.contains f && mtEs m es xs
    | _ => false)
  | .bi b es => (match a with
    | .Call (.Name x _) xs [] _ => gloB m (bfN b) x && mtEs m es xs && !xs.isEmpty && (!decide (b = .gcd) || m.gcd)
    | _ => false)
  | .mkb b _ es => (match a with
    | .Call (.Name x _) xs [] _ => gloB m (bmN b) x && mtEs m es xs && !xs.isEmpty
    | _ => false)
  | .lrg _ es => (match a with
    | .Call (.Name x _) [.Call (.Name y _) xs [] _] [] _ => gloB m "list" x && gloB m "range" y && mtEs m es xs && (decide (xs.length = 1) || decide (xs.length = 2))
    | _ => false)
  | .met x f es => (match a with
    | .Call (.Attribute p g ap) xs [] cp => mtE m x p && decide (meS f = g) && mtEs m es xs && (ap.endLine == cp.line) && nsup p && decide (xs.length < 30) && (decide (f = .bits) == xs.isEmpty)
    | _ => false)
  | .isi x ts => (match a with
    | .Call (.Name y _) [p, q] [] _ => gloB m "isinstance" y && mtE m x p && nst p && nst q && (match q with
      | .Tuple cs _ _ => kdsB m ts cs && !ts.isEmpty && decide (ts.length ≤ 100)
      | q => (match ts with
        | [t] => kdB m t q
        | _ => false))
    | _ => false)
  | .comp _ own tg it cs elt => (match a with
    | .ListComp x [⟨t, i, fs, z⟩] scope _ => decide (z = 0) && L2.blkC m.N m.sc scope own && mtIt m it i t && nset i && mtTg (m.blk scope) (own.map (·.2)) tg t && mtTs (m.blk scope) cs fs && mtE (m.blk scope) elt x
    | _ => false)
  | .cal i es => (match a with
    | .Call (.Name x _) xs [] _ => varB m i x && mtEs m es xs
    | _ => false)
  | .callC f es is => (match a with
    | .Call (.Name x _) xs [] _ => m.top && gloB m f x && m.fns.contains f && mtEs m es xs && cellsB m is && decide is.Nodup && !xs.isEmpty
    | _ => false)
  | .xf _ => false
def mtEs (m : MC) (c : Es) (a : List Expr) : Bool := match c with
  | .nil => (match a with
    | [] => true
    | _ => false)
  | .cons e r => (match a with
    | x :: xs => mtE m e x && nst x && mtEs m r xs
    | _ => false)
def mtO (m : MC) (c : Es) (a : Option Expr) : Bool := match c with
  | .nil => (match a with
    | none => true
    | _ => false)
  | .cons e r => (match a with
    | some x => mtE m e x && mtO m r none
    | _ => false)
def mtT (m : MC) (c : T) (a : Expr) : Bool := match c with
  | .val e => nbt a && mtE m e a
  | .cmp op x y => (match a with
    | .Compare p [o] [q] _ => decide (op = o) && mtE m x p && mtE m y q && nset q
    | _ => false)
  | .chain op op' x y z => (match a with
    | .Compare p [o, o'] [q, r] _ => decide (op = o) && decide (op' = o') && mtE m x p && mtE m y q && mtE m z r && nset r
    | _ => false)
  | .and x y => (match a with
    | .BoolOp .And (p :: q :: r) pos => mtT m x p && (match r with
      | [] => mtT m y q
      | _ => mtT m y (.BoolOp .And (q :: r) pos))
    | _ => false)
  | .or x y => (match a with
    | .BoolOp .Or (p :: q :: r) pos => mtT m x p && (match r with
      | [] => mtT m y q
      | _ => mtT m y (.BoolOp .Or (q :: r) pos))
    | _ => false)
  | .not x => (match a with
    | .UnaryOp .Not p _ => mtT m x p
    | _ => false)
def mtTs (m : MC) (c : Ts) (a : List Expr) : Bool := match c with
  | .nil => (match a with
    | [] => true
    | _ => false)
  | .cons t r => (match a with
    | [x] => mtT m t x && mtTs m r []
    | _ => false)
def mtIt (m : MC) (c : It) (a tg : Expr) : Bool := match c with
  | .seq e => mtE m e a
  | .rng es => (match a with
    | .Call (.Name x _) xs [] _ => gloB m "range" x && mtEs m es xs && decide (xs.length = 1 ∨ xs.length = 2)
    | _ => false)
  | .enum e => (match a with
    | .Call (.Name x _) [y] [] _ => gloB m "enumerate" x && mtE m e y && nst y && (match tg with
      | .Tuple .. => true
      | _ => false)
    | _ => false)
  | .zip es => (match a with
    | .Call (.Name x _) xs [] _ => gloB m "zip" x && mtEs m es xs && decide (xs.length = 2) && (match tg with
      | .Tuple .. => true
      | _ => false)
    | _ => false)
def mtTg (m : MC) (vs : List Nat) (c : Tg) (a : Expr) : Bool := match c with
  | .name i => (match a with
    | .Name x _ => tgtB m i x && decide (i ∈ vs)
    | _ => false)
  | .tup ts => (match a with
    | .Tuple xs _ _ => mtTgs m vs ts xs
    | _ => false)
  | .ix _ _ => false
def mtTgs (m : MC) (vs : List Nat) (c : Tgs) (a : List Expr) : Bool := match c with
  | .nil => (match a with
    | [] => true
    | _ => false)
  | .cons t r => (match a with
    | x :: xs => mtTg m vs t x && nst x && mtTgs m vs r xs
    | _ => false)
end
/-- a target of a plain assignment -/
def mtA (m : MC) (c : Tg) (a : Expr) : Bool := match c with
  | .ix x y => (match a with
    | .Subscript p q _ => mtE m x p && mtE m y q && nsl q
    | _ => false)
  | c => mtTg m (List.range m.N.length) c a
def namesB (m : MC) : List Nat → List Expr → Bool
  | [], [] => true
  | i :: is, .Name x _ :: xs => decide (m.N[i]? = some x) && decide (m.sc.names.lookup x = some .local) && namesB m is xs
  | _, _ => false
/-- all targets are local names -/
def allLoc (m : MC) : List Expr → Bool
  | [] => true
  | .Name x _ :: r => decide (m.sc.names.lookup x = some .local) && allLoc m r
  | _ => false
def onLine (l : Nat) : List Expr → Bool
  | [] => true
  | x :: xs => (x.pos.line == l) && onLine l xs
def exName : Expr → Str
  | .Name x _ => x
  | _ => Str.empty
/-- what a handler gives back: constants and fields of the exception named n -/
def mtX (n : Str) : Es → List Expr → Bool
  | .nil, [] => true
  | .cons (.c (.str s)) r, .Constant (.str v) _ _ :: xs => decide (s = v) && mtX n r xs
  | .cons (.xf f) r, .Attribute (.Name y _) g _ :: xs => decide (f = g) && decide (y = n) && mtX n r xs
  | _, _ => false
def mtHs (m : MC) (n : Str) : Hs → List ExceptHandler → Bool
  | .nil, [] => true
  | .cons c (.tup es) r, .ExceptHandler (some (.Name x _)) (some y) [.Return (some (.Tuple xs _ _)) _] _ :: hs => gloB m c x && m.exn.contains c && decide (y = n) && mtX n es xs && decide (xs.length ≤ 100) && mtHs m n r hs
  | _, _ => false
/-- the lambda l is known by this body -/
def mtL (m : MC) (l : Nat) (b : Expr) (sc : Scope) : Bool := match m.lam l with
  | some L => decide (L.nl = m.N.length) && mtE (m.lm sc) L.body b && sc.names.all fun y => !decide (y.2 = .free) || L.fv.any fun i => decide (m.N[i]? = some y.1)
  | none => false
mutual
def mtS (m : MC) (c : S) (a : Stmt) : Bool := match c with
  | .asg t e => (match a with
    | .Assign [g] x _ => mtA m t g && mtE m e x && nst g && (nlc x || !swB m.sc x g || (match t with
      | .name _ => true
      | _ => false)) && (match g, x with
      | .Tuple gs _ _, .Tuple .. => !allLoc m gs
      | .List .., _ => false
      | _, _ => true)
    | _ => false)
  | .par is es => (match a with
    | .Assign [.Tuple gs _ _] (.Tuple xs _ _) _ => namesB m is gs && mtEs m es xs && decide (gs.length = xs.length) && decide (gs.length = 2 ∨ gs.length = 3) && onLine ((gs.head?.map (·.pos.line)).getD 0) gs && decide is.Nodup && !xs.all (foldedForSure 8) && !xs.all (constantsAlone 8)
    | _ => false)
  | .aug _ _ _ => false
  | .exp e => (match a with
    | .Expr x _ => mtE m e x && nlc x
    | _ => false)
  | .rtn e => (match a with
    | .Return (some x) _ => mtE m e x
    | _ => false)
  | .rtnN => (match a with
    | .Return none _ => true
    | _ => false)
  | .ite t x y => (match a with
    | .If c p q _ => mtT m t c && mtSs m x p && mtSs m y q
    | _ => false)
  | .for_ t it b => (match a with
    | .For g i p [] _ => mtTg m (List.range m.N.length) t g && mtIt m it i g && nset i && mtSs m b p
    | _ => false)
  | .whl t b => (match a with
    | .While c p [] _ => mtT m t c && mtSs m b p
    | _ => false)
  | .rse c es => (match a with
    | .Raise (some (.Call (.Name x _) xs [] _)) none _ => gloB m c x && m.exn.contains c && mtEs m es xs && !xs.isEmpty
    | _ => false)
  | .try_ i b hs => (match a with
    | .Try p hds [] [] _ => (match m.N[i]? with
      | some n => decide (m.sc.names.lookup n = some .local) && undB n && mtSs m b p && mtHs m n hs hds && !hds.isEmpty
      | none => false)
    | _ => false)
  | .lamN i l e => (match a with
    | .Assign [.Name x _] (.List [.Tuple [.Lambda ps b sc _, y] _ _] _) _ => m.top && tgtB m i x && noParB ps && lamB m.sc sc && mtL m l b sc && mtE m e y && nst y
    | _ => false)
  | .lamA i l e => (match a with
    | .Expr (.Call (.Attribute (.Name x _) f ap) [.Tuple [.Lambda ps b sc _, y] _ _] [] cp) _ => m.top && varB m i x && decide (f = "append") && noParB ps && lamB m.sc sc && mtL m l b sc && mtE m e y && nst y && (ap.endLine == cp.line)
    | _ => false)
  | .pass => (match a with
    | .Pass _ => true
    | _ => false)
  | .brk => (match a with
    | .Break _ => true
    | _ => false)
  | .cont => (match a with
    | .Continue _ => true
    | _ => false)
def mtSs (m : MC) (c : Ss) (a : List Stmt) : Bool := match c with
  | .nil => (match a with
    | [] => true
    | _ => false)
  | .cons s r => (match a with
    | x :: xs => mtS m s x && mtSs m r xs
    | _ => false)
end
end Ev
end
section
set_option Elab.async false
set_option linter.all false
set_option maxRecDepth 100000
set_option maxHeartbeats 4000003
namespace Ev
open PySem PySem.Spec PyProof.Rows L2
/-! ### an own exception class: Base.__init__(self, text), then fields -/
/-- Base, whose __init__ is ValueError's -/
structure BasX (K : PySem.W.Frag) (B : Addr) : Prop where
  r1 : PySem.W.readsIn K B (.type "type") = true
  r2 : PySem.W.findCls K (.ref B) (.type "type") "__init__" = some (.val (.builtin "ValueError.__init__"))
  r3 : PySem.W.specialIn K (.ref B) "__getattribute__" = some (some (.builtin "type.__getattribute__"))
section
variable {X : Cx} {B : Addr} {hx : Str} {e : Expr} {es : List Expr} {ta : TA} {p1 p2 pos : Pos}
theorem pe_hinit {pl : Sem Bool} (b : BasX X.K B) (hg : L2.Gl X hx) (hm : X.mg hx = some (.ref B)) (hd : (hx == ("__debug__" : Str)) = false) (ha : PA X (e :: es) ta)
    (hs1 : starEach (e :: es) X.env = (false, eval e X.env) :: starEach es X.env) (hs2 : (backTo pos (starEach es X.env)).any (·.1) = false)
    (hev : eval (.Call (.Attribute (.Name hx p1) "__init__" p2) (e :: es) [] pos) X.env = (do let o ← eval (.Name hx p1) X.env; standAt p2.atName; let (f, first) ← holding [o] (getMethod o "__init__" pl); callWith pos f first (backTo pos (starEach (e :: es) X.env)) (backToKw pos (keywordEach [] X.env))) := by rfl) : PE X (.Call (.Attribute (.Name hx p1) "__init__" p2) (e :: es) [] pos) (tVeI X.K ta) := by
  refine ⟨fun pins s σ H Q I h => PySem.W.methodCall_KW (ld_glob I hg hm (PySem.W.method_cls I.kIn b.r3 (PySem.W.cls_value I.kIn b.r1 b.r2 rfl ?_)) hd) hev⟩
  refine PyProof.Rows.callWith_method1 (pos := pos) (thn (ha.run pos pins _ σ H _ (I.tok _) h) fun us s1 hq => ?_) hs1 hs2
  obtain ⟨vs, H1, J, rl, a, C, ws, rfl, hl, oc, at_, q⟩ := hq
  cases rl with
  | @cons _ w0 _ wr h0 hr =>
    have w0e : w0 = Value.ref a := h0
    subst w0e
    exact oinit_ok oc J at_ (by rw [← Paired.length hr, sizeLine_eq]; omega) fun s2 J2 => ⟨V.non, H1, J2, rfl, q⟩
end
theorem init_eval {h s' x : Str} {p1 p2 p3 p4 p5 : Pos} {j : Nat} {env : Env} (hl : (p2.endLine == p5.line) = true) :
    eval (.Call (.Attribute (.Name h p1) "__init__" p2) [.Name s' p3, .Constant (.str x) j p4] [] p5) env = (do let o ← eval (.Name h p1) env; standAt p2.atName; let (f, first) ← holding [o] (getMethod o "__init__" (plainOf (.Name h p1) env)); callWith p5 f first (backTo p5 (starEach [.Name s' p3, .Constant (.str x) j p4] env)) (backToKw p5 (keywordEach [] env))) := by
  have e1 : eval (.Call (.Attribute (.Name h p1) "__init__" p2) [.Name s' p3, .Constant (.str x) j p4] [] p5) env = (do let o ← eval (.Name h p1) env; standAt p2.atName; methodCall (.Name h p1) "__init__" p2 p5 env o 2 (backTo p5 (starEach [.Name s' p3, .Constant (.str x) j p4] env)) (backToKw p5 (keywordEach [] env))) := rfl
  rw [e1]
  congr 1
  funext o
  congr 1
  funext _
  exact mcall_line rfl hl
/-! ### the stores -/
def stB (N : List Str) (sc : Scope) : List (Str × Nat) → List Stmt → Bool
  | [], [] => true
  | (f, i) :: r, .Assign [.Attribute (.Name s _) g _] (.Name x _) _ :: b => decide (N[0]? = some s) && decide (f = g) && decide (N[i]? = some x) && decide (sc.names.lookup s = some .local) && decide (sc.names.lookup x = some .local) && !(s == ("__debug__" : Str)) && !(s == ("__classdict__" : Str)) && !(x == ("__debug__" : Str)) && !(x == ("__classdict__" : Str)) && stB N sc r b
  | _, _ => false
def tSt (K : PySem.W.Frag) : List (Str × Nat) → TS
  | [] => tNext
  | (f, i) :: r => tSeq (tOst K f (tVar 0) (tVar i)) (tSt K r)
theorem pss_st {X : Cx} : ∀ {r : List (Str × Nat)} {b : List Stmt}, stB X.N X.env.scope r b = true → PSs X b (tSt X.K r)
  | [], [], _ => pss_nil
  | [], _ :: _, h => by simp [stB] at h
  | (f, i) :: r, [], h => by simp [stB] at h
  | (f, i) :: r, s :: b, h => by
    cases s <;> first | (simp [stB] at h; done) | skip
    rename_i ts v pos
    match ts, h with
    | [.Attribute (.Name s p1) g p2], h =>
      cases v <;> first | (simp [stB] at h; done) | skip
      simp only [stB, Bool.and_eq_true, Bool.not_eq_true', decide_eq_true_eq] at h
      obtain ⟨⟨⟨⟨⟨⟨⟨⟨⟨h1, rfl⟩, h2⟩, h3⟩, h4⟩, h5⟩, h6⟩, h7⟩, h8⟩, h9⟩ := h
      exact pss_cons (ps_ost (pe_var h1 (.inl h3) h5 h6) (pe_var h2 (.inl h4) h7 h8) rfl) (pss_st h9)
    | [], h => simp [stB] at h
    | [.Name ..], h => simp [stB] at h
    | _ :: _ :: _, h => simp [stB] at h
theorem tSt_go {K : PySem.W.Frag} {a C dx : Addr} (T : OexC K C) {σ : L2.St} {D : Ends} (h0 : σ[0]? = some (some (.ref a))) (ne : dx ≠ a) : ∀ (r : List (Str × Nat)) (ws : List V) (acc : List (Str × V)) (H : Hp), H a = some (exo a C (some dx)) → H dx = some (exd dx acc) → acc.length + r.length ≤ 900 →
    (∀ p ∈ r, PySem.W.findIn K (.ref C) p.1 = some none) → (∀ (j : Nat) (p : Str × Nat), r[j]? = some p → ∃ w, ws[j]? = some w ∧ σ[p.2]? = some (some w)) → ws.length = r.length →
    (∀ H', H' a = some (exo a C (some dx)) → H' dx = some (exd dx (((r.map (·.1)).zip ws).reverse ++ acc)) → (∀ b, b ≠ a → b ≠ dx → H' b = H b) → D.nx σ H') → tSt K r D σ H
  | [], ws, acc, H, e1, e2, _, _, _, _, q => q H e1 (by simpa using e2) fun _ _ _ => rfl
  | (f, i) :: r, ws, acc, H, e1, e2, hl, hn, hv, hw, q => by
    obtain ⟨w, hw0, hs⟩ := hv 0 _ rfl
    cases ws with
    | nil => simp at hw
    | cons w' ws =>
      cases hw0
      refine ⟨w, hs, .ref a, h0, a, C, rfl, T, hn (f, i) List.mem_cons_self, .inr ⟨dx, acc, e1, e2, by simp at hl; omega, ?_⟩⟩
      have na : upd H dx (exd dx ((f, w) :: acc)) a = some (exo a C (some dx)) := by rw [upd_ne (Ne.symm ne)]; exact e1
      refine tSt_go T h0 ne r ws ((f, w) :: acc) _ na upd_same (by simp at hl ⊢; omega) (fun p hp => hn p (List.mem_cons_of_mem _ hp)) (fun j p hj => hv (j + 1) p hj) (by simpa using hw) fun H' q1 q2 q3 => q H' q1 ?_ fun b b1 b2 => (q3 b b1 b2).trans (upd_ne b2)
      simpa using q2
/-- what __init__ is to do -/
def spX (K : PySem.W.Frag) (C : Addr) (fs : List Str) : Sp := fun vs H Q E => ∃ a ws, vs = .ref a :: ws ∧ ws.length = fs.length ∧ H a = some (exo a C none) ∧
  ∀ d H2, H d = none → d ≠ a → H2 a = some (exo a C (some d)) → H2 d = some (exd d ((fs.zip ws).reverse)) → (∀ b, b ≠ a → b ≠ d → H2 b = H b) → Q .non H2
theorem tSt_all {K : PySem.W.Frag} {a C : Addr} (T : OexC K C) {σ : L2.St} {D : Ends} {H : Hp} {r : List (Str × Nat)} {ws : List V} (h0 : σ[0]? = some (some (.ref a))) (hr : r ≠ []) (e1 : H a = some (exo a C none)) (hl : r.length ≤ 900) (hn : ∀ p ∈ r, PySem.W.findIn K (.ref C) p.1 = some none)
    (hv : ∀ (j : Nat) (p : Str × Nat), r[j]? = some p → ∃ w, ws[j]? = some w ∧ σ[p.2]? = some (some w)) (hw : ws.length = r.length)
    (q : ∀ d H', H d = none → d ≠ a → H' a = some (exo a C (some d)) → H' d = some (exd d (((r.map (·.1)).zip ws).reverse)) → (∀ b, b ≠ a → b ≠ d → H' b = H b) → D.nx σ H') : tSt K r D σ H := by
  cases r with
  | nil => exact absurd rfl hr
  | cons p r =>
    obtain ⟨f, i⟩ := p
    obtain ⟨w, hw0, hs⟩ := hv 0 _ rfl
    cases ws with
    | nil => simp at hw
    | cons w' ws =>
      cases hw0
      refine ⟨w, hs, .ref a, h0, a, C, rfl, T, hn (f, i) List.mem_cons_self, .inl ⟨e1, fun dx n ne => ?_⟩⟩
      refine tSt_go T h0 ne r ws [(f, w)] _ upd_same (by rw [upd_ne ne, upd_same]) (by simp at hl ⊢; omega) (fun p hp => hn p (List.mem_cons_of_mem _ hp)) (fun j p hj => hv (j + 1) p hj) (by simpa using hw) fun H' q1 q2 q3 => q dx H' n ne q1 (by simpa using q2) fun b b1 b2 => (q3 b b1 b2).trans ?_
      rw [upd_ne b1, upd_ne b2]
/-- __init__'s body -/
def initB (mgx : Str) (N : List Str) (sc : Scope) (r : List (Str × Nat)) : List Stmt → Bool
  | .Expr (.Call (.Attribute (.Name h _) i q) [.Name s _, .Constant (.str _) _ _] [] p) _ :: b => (q.endLine == p.line) && decide (h = mgx) && decide (i = "__init__") && !(h == ("__debug__" : Str)) && decide (sc.names.lookup h = some .globalImplicit) && decide (N[0]? = some s) && decide (sc.names.lookup s = some .local) && !(s == ("__debug__" : Str)) && !(s == ("__classdict__" : Str)) && stB N sc r b
  | _ => false
/-- an own exception class, its fields in order -/
structure ExcC (K : PySem.W.Frag) (mg : Str → Option Value) (P : Program) (w : World) (base : Heap) (c : Str) (fs : List Str) : Prop where
  ok : ∃ C fI fd ps, mg c = some (.ref C) ∧ OexC K C ∧ XfC K C ∧ (∀ f ∈ fs, PySem.W.findIn K (.ref C) f = some none) ∧ PySem.W.findIn K (.ref C) "__init__" = some (some (.ref fI)) ∧ PySem.W.typeIn K (.ref fI) = some (.type "function") ∧
    FnOk P w K mg base C8.CX0 1 fI fd ps (spX K C fs) ∧ Binds K fd ps [] ∧ fs.Nodup ∧ fs.length ≤ 900
theorem iota_get {α : Type} {l : List α} : ∀ (n j : Nat) (p : α × Nat), (l.zipIdx n)[j]? = some p → l[j]? = some p.1 ∧ p.2 = n + j := fun n j p h => by
  rw [List.getElem?_zipIdx] at h
  obtain ⟨x, hx, rfl⟩ := Option.map_eq_some_iff.mp h
  exact ⟨hx, rfl⟩
/-- by its text -/
theorem init_fn {P : Program} {w : World} {K : PySem.W.Frag} {mg : Str → Option Value} {base : Heap} {f C B : Addr} {qual hx : Str} {params : Arguments} {body : List Stmt} {scope : Scope} {dV kV doc pm cdv ct oc : Value} {an od : Option Addr}
    {osl : Array (Option Value)} {N : List Str} {fs : List Str} (lk : K.lookup f = some ⟨oc, od, .func (PySem.W.fnOf "__init__" qual params body scope dV kV doc pm an cdv ct), osl⟩) (hcd : PySem.W.codeIn K cdv qual = true) (S : FnScope N N scope)
    (T : OexC K C) (b : BasX K B) (hm : mg hx = some (.ref B)) (hN : N.length = fs.length + 1) (hne : fs ≠ []) (h900 : fs.length ≤ 900) (hno : ∀ g ∈ fs, PySem.W.findIn K (.ref C) g = some none) (hb : initB hx N scope (fs.zipIdx 1) body = true) :
    FnOk P w K mg base C8.CX0 1 f (PySem.W.fnOf "__init__" qual params body scope dV kV doc pm an cdv ct) N (spX K C fs) := by
  refine fn_of lk hcd S (fun vs H Q E ⟨a, ws, e, l, _⟩ => by rw [e, List.length_cons, l, hN]) fun A outer s H vs Q E hr ⟨a, ws, ev, el, ha, q⟩ => ?_
  subst ev
  have hsc : (cxOf C8.CX0 P w K mg base N qual scope f cdv A outer s H E).env.scope = scope := rfl
  unfold initB at hb
  split at hb
  · rename_i h p1 i p2 s' p3 x j p4 p5 p6 rest
    simp only [Bool.and_eq_true, Bool.not_eq_true', decide_eq_true_eq] at hb
    obtain ⟨⟨⟨⟨⟨⟨⟨⟨⟨h0, rfl⟩, rfl⟩, h3⟩, h4⟩, h5⟩, h6⟩, h7⟩, h8⟩, h9⟩ := hb
    have pv : PE (cxOf C8.CX0 P w K mg base N qual scope f cdv A outer s H E) (.Name s' p3) (tVar 0) := pe_var h5 (.inl h6) h7 h8
    refine ⟨_, pss_cons (ps_expr (pe_hinit (X := cxOf C8.CX0 P w K mg base N qual scope f cdv A outer s H E) b h4 hm h3 (pa_cons pv (pa_cons pe_str pa_nil rfl) rfl) rfl rfl (init_eval h0)) rfl) (pss_st h9), ?_⟩
    refine ⟨.ref a, by simp [L2.start], ?_⟩
    show ∃ a_1 C_1 ws_1, _
    refine ⟨a, C, [V.str x], rfl, by simp, T, ha, ?_⟩
    refine tSt_all (ws := ws) T (by simp [L2.start]) ?_ ha (by simpa using h900) (fun p hp => hno _ ?_) (fun j p hp => ?_) (by simpa using el) fun d H' n ne q1 q2 q3 => ?_
    · intro e
      apply hne
      cases fs with
      | nil => rfl
      | cons _ _ => simp at e
    · obtain ⟨j, hj⟩ := List.getElem?_of_mem hp
      exact List.mem_of_getElem? (iota_get 1 j p hj).1
    · obtain ⟨e1, e2⟩ := iota_get 1 j p hp
      have hj : j < ws.length := by
        rw [el]
        exact (List.getElem?_eq_some_iff.mp e1).1
      refine ⟨ws[j], by simp [hj], ?_⟩
      rw [e2, Nat.add_comm]
      simp only [L2.start, List.map_cons, List.cons_append, List.getElem?_cons_succ]
      rw [List.getElem?_append_left (by simpa using hj)]
      simp [hj]
    · refine q d H' n ne q1 ?_ q3
      rw [q2]
      have : (fs.zipIdx 1).map (·.1) = fs := by simp
      rw [this]
  · cases hb
end Ev
end
section
set_option Elab.async false
set_option linter.all false
set_option maxRecDepth 100000
set_option maxHeartbeats 1000003
namespace Ev
open PySem PySem.Spec PyProof.Rows L2
variable [Gh]
structure RoomG (k : Nat) (A : Around) : Prop where
  r : Room k A
  g : A.guards = some []
section
variable (K : PySem.W.Frag) (mg : Str → Option Value)
/-- an answer, with the end of exceptions told -/
def PtX {α β : Type} (rel : Rl α β) (FF : List (Addr × HO)) (W : Vw) (μ : List Addr) (r : R α) (Q : β → Hp → Prop) (E : XK) : Prop :=
  match r with
  | .ok d st' => ∀ v H' W' μ', SA K mg FF H' W' μ' st' → Ex2 W μ W' μ' → rel W' μ' d v → Q v H'
  | .exc x st' => ∀ H' W' μ' cls dd, SA K mg FF H' W' μ' st' → Ex2 W μ W' μ' → ExR K mg W' x cls dd → E cls dd H'
  | .no => False
theorem Pt.x {α β : Type} {rel : Rl α β} {FF : List (Addr × HO)} {W : Vw} {μ : List Addr} {r : R α} {Q : β → Hp → Prop} {WE : WX} {σ : L2.St} (h : Pt K mg WE rel FF σ W μ r Q) : PtX K mg rel FF W μ r Q (fun cls dd H => WE cls dd σ H) := by
  cases r <;> exact h
/-- what a call of data wants -/
def spG (fn : List D → M D) : Sp := fun vs H Q E => ∃ FF st W μ ds, SA K mg FF H W μ st ∧ Rpas K mg W μ ds vs ∧ PtX K mg (relA K mg) FF W μ (fn ds st) Q E
/-- the callee at a keeps it, at k calls deep -/
def FnC (P : Program) (w : World) (base : Heap) (k : Nat) (a : Addr) (fn : List D → M D) : Prop :=
  ∀ (A : Around) (outer : List Env) (s : Shared) (H : Hp) (us : List Value) (vs : List V) (Q : VK) (E : XK), RoomG k A → Env0 P w K mg base A outer s H → Vals vs us → spG K mg fn vs H Q E →
    codeAny (model P w) A (.call (.ref a) ⟨us, []⟩) (CR (L2.CX P w) outer P w H s Q E) s
/-- what a closure's call wants -/
def spC (l : Nat) (ev : M D) (f : Addr) (H : Hp) (Q : VK) (E : XK) : Prop := ∃ FF st W μ, SA K mg FF H W μ st ∧ Rp K mg W (.clo l) (.ref f) ∧ PtX K mg (relA K mg) FF W μ (ev st) Q E
/-- closures l keep it, at k calls deep -/
def CloC (P : Program) (w : World) (base : Heap) (k : Nat) (l : Nat) (ev : M D) : Prop :=
  ∀ (A : Around) (outer : List Env) (s : Shared) (H : Hp) (f : Addr) (Q : VK) (E : XK), RoomG k A → Env0 P w K mg base A outer s H → spC K mg l ev f H Q E →
    codeAny (model P w) A (.call (.ref f) ⟨[], []⟩) (CR (L2.CX P w) outer P w H s Q E) s
/-- closures are functions -/
def CloF : Prop := ∀ l f o c oc, Gh.P l f o c oc → ∃ c1 od fd osl, o = cellO f (⟨c1, od, .func fd, osl⟩ : Obj)
end
/-- the frame whose closures are at hand -/
structure TopOk (m : MC) (X : Cx) : Prop where
  inv : ∀ i a, Gh.S i = some a → ∃ y, m.N[i]? = some y ∧ X.env.cells.lookup y = some a
  get : ∀ i y, m.N[i]? = some y → m.sc.names.lookup y = some .cell → ∃ a, X.env.cells.lookup y = some a ∧ Gh.S i = some a
  fnT : ∀ y, X.fn y = true
  sj : ∀ i j a, Gh.S i = some a → Gh.S j = some a → i = j
  mkC : ∀ l f ps b sc pm c' ctv, noParB ps = true → lamB m.sc sc = true → mtL m l b sc = true → Gh.P l f (cellO f (PySem.W.kla_obj "<lambda>" (X.env.qual ++ "<lambda>") ps b sc (cloFrom X.env.cells sc.names []) pm c' ctv)) c' (LamX.CodeO c' (X.env.qual ++ "<lambda>"))
def bNs : List Str := ["len", "repr", "int", "abs", "max", "str", "tuple", "all", "any", "sum", "list", "sorted", "dict", "isinstance", "range", "enumerate", "zip", "bool"]
structure CtxOk (C : Cx') (m : MC) (X : Cx) (WE : WX) (k : Nat) : Prop where
  hN : X.N = m.N
  nd : m.N.Nodup
  hsc : X.env.scope = m.sc
  calm : X.calm = true
  room : RoomG k X.A
  tk : Takes X WE
  tl : ∀ x, locB m.ts x = true → L2.Loc X.env.scope x ∧ (X.fn x = true ∨ X.env.scope.names.lookup x = some .local)
  con : ∀ x d, C.con x = some d → ∃ v u, X.mg x = some u ∧ RelV v u ∧ ∀ W μ, Rpa X.K X.mg W μ d v
  isa : IsaOk X.K X.mg C.isa
  cns : ∀ c ∈ m.cns, ∃ T, X.mg c = some (.ref T)
  bn : ∀ b ∈ bNs, X.mg b = none
  gcd : m.gcd = true → X.mg "gcd" = some (.builtin "math.gcd")
  fns : ∀ f ∈ m.fns, ∃ a, X.mg f = some (.ref a) ∧ PySem.W.keepIn X.K (.ref a) = true
  fnc : ∀ f a, X.mg f = some (.ref a) → FnC X.K X.mg X.prog X.w X.base k a (C.orc.fn f)
  clo : ∀ l, CloC X.K X.mg X.prog X.w X.base k l (C.orc.clo l)
  clf : CloF
  top : m.top = true → TopOk m X
  k2 : 2 ≤ k
  exc : ∀ c ∈ m.exn, ∃ fs, C.exs c = some fs ∧ ExcC X.K X.mg X.prog X.w X.base c fs
  exm : ∀ c c', (C.exs c).isSome = true → c' ∈ m.exn → ∀ A B, X.mg c = some (.ref A) → X.mg c' = some (.ref B) → PySem.W.exmOne X.K (.ref A) (.ref B) = some (decide (c = c'))
section
variable {C : Cx'} {m : MC} {X : Cx} {WE : WX} {k : Nat}
theorem CtxOk.gl (c : CtxOk C m X WE k) {x y : Str} (h : gloB m x y = true) : x = y ∧ L2.Gl X x ∧ (x == ("__debug__" : Str)) = false ∧ x ≠ "__name__" := by
  unfold gloB undB at h
  obtain ⟨h, h3⟩ := Bool.and_eq_true_iff.mp h
  obtain ⟨h1, h2⟩ := Bool.and_eq_true_iff.mp h
  obtain ⟨h3, h5⟩ := Bool.and_eq_true_iff.mp h3
  obtain ⟨h3, h4⟩ := Bool.and_eq_true_iff.mp h3
  refine ⟨of_decide_eq_true h1, ?_, by simpa using h3, by simpa using h5⟩
  unfold L2.Gl Env.kindOf
  rw [c.hsc]
  exact of_decide_eq_true h2
theorem CtxOk.var (c : CtxOk C m X WE k) {x : Str} {i : Nat} (h : varB m i x = true) : X.N[i]? = some x ∧ Vis X.env.scope x ∧ (x == ("__debug__" : Str)) = false ∧ (x == ("__classdict__" : Str)) = false := by
  unfold varB undB at h
  obtain ⟨h, h3⟩ := Bool.and_eq_true_iff.mp h
  obtain ⟨h1, h2⟩ := Bool.and_eq_true_iff.mp h
  obtain ⟨h3, h5⟩ := Bool.and_eq_true_iff.mp h3
  obtain ⟨h3, h4⟩ := Bool.and_eq_true_iff.mp h3
  refine ⟨by rw [c.hN]; exact of_decide_eq_true h1, ?_, by simpa using h3, by simpa using h4⟩
  unfold visB at h2
  rw [c.hsc]
  unfold Vis
  split at h2 <;> first | (rename_i e; rw [e]; simp; done) | cases h2
theorem CtxOk.tgt (c : CtxOk C m X WE k) {x : Str} {i : Nat} (h : tgtB m i x = true) : X.N[i]? = some x ∧ L2.Loc X.env.scope x ∧ (X.fn x = true ∨ X.env.scope.names.lookup x = some .local) := by
  unfold tgtB at h
  obtain ⟨h1, h2⟩ := Bool.and_eq_true_iff.mp h
  exact ⟨by rw [c.hN]; exact of_decide_eq_true h1, c.tl x h2⟩
theorem CtxOk.hu (c : CtxOk C m X WE k) : X.A.units + 100 < cLine := by
  have := c.room.r.un
  omega
theorem nst_each {e : Expr} (h : nst e = true) (es : List Expr) (env : Env) : starEach (e :: es) env = (false, eval e env) :: starEach es env := by
  cases e <;> first | rfl | cases h
theorem nst_all {m : MC} : ∀ {c : Es} {es : List Expr} (env : Env), mtEs m c es = true → (starEach es env).any (·.1) = false
  | .nil, es, env, h => by
    cases es with
    | nil => rfl
    | cons _ _ => simp [mtEs] at h
  | .cons e r, es, env, h => by
    cases es with
    | nil => simp [mtEs] at h
    | cons x xs =>
      simp only [mtEs, Bool.and_eq_true] at h
      rw [nst_each h.1.2, List.any_cons, nst_all env h.2]
      rfl
theorem back_any {pos : Pos} {l : List (Bool × Sem Value)} : (backTo pos l).any (·.1) = l.any (·.1) := by
  unfold backTo
  rw [List.any_map]
  congr 1
theorem nbt_true {e : Expr} (h : nbt e = true) (env : Env) (whole : Sem Value) : isTrue e env whole = (do let v ← whole; standAt e.pos; holding [v] (truthy v)) := by
  cases e <;> first | rfl | skip
  case BoolOp => cases h
  case IfExp => cases h
  case Compare => cases h
  case UnaryOp op a pos => cases op <;> first | rfl | cases h
theorem nsl_ix {e : Expr} (h : nsl e = true) : PlainIx e := by
  intro o i
  cases e <;> first | rfl | cases h
theorem nset_in {op : CmpOp} {e : Expr} (h : nset e = true) : behindInMarks op e = false := by
  cases e <;> first | rfl | cases h
theorem nset_last {op op' : CmpOp} {e e' : Expr} (h : nset e' = true) : lastMarks [op, op'] [e, e'] = false := nset_in h
theorem nset_for {e : Expr} (h : nset e = true) (env : Env) (x : Value) : foldedSetIterable e env x = pure x := by
  cases e <;> first | rfl | cases h
theorem nsup_base {o : Expr} (h : nsup o = true) (f : Str) (env : Env) (whole : Sem Value) : attributeBase o f env whole = whole := by
  cases o <;> first | rfl | skip
  case Call fn args kws pos =>
    cases args with
    | cons _ _ => cases fn <;> rfl
    | nil =>
      cases kws with
      | nil => cases h
      | cons _ _ => cases fn <;> rfl
theorem nlc_swap {e : Expr} (h : nlc e = true) (t : Option Expr) (l : Nat) (env : Env) : swapsWith e t l env = pure false := by
  cases e <;> first | rfl | cases h

/-! ### calls -/
/-- f(e, ..) -/
theorem run_fnG {pins : List (Addr × Obj)} {σ : L2.St} {H : Hp} {s : Shared} {Q : VK} {us : List Value} {vs : List V} {a : Addr} {fn : List D → M D} (c : CtxOk C m X WE k) (F : FnC X.K X.mg X.prog X.w X.base k a fn) (I : Inv X pins σ H s) (r : Vals vs us)
    (h : spG X.K X.mg fn vs H Q (fun cls dd H' => WE cls dd σ H')) : wpAny (model X.prog X.w) X.A (call (.ref a) us) (EP X pins σ Q) X.xe s := by
  refine wpAny_call (codeAny_mono (F X.A X.stack s H us vs Q _ c.room I.env0 r h) fun r s' hq => ?_)
  cases r with
  | error e => exact c.tk e s' (XE.of_call I (fun _ _ _ h => h) hq)
  | ok fl =>
    cases fl with
    | ret u => exact I.after hq
    | next => exact False.elim hq
    | brk => exact False.elim hq
    | cont => exact False.elim hq
def tCallG (K : PySem.W.Frag) (mg : Str → Option Value) (WE : WX) (fn : List D → M D) (t : TA) : TE := fun σ H Q => t σ H fun vs H1 => spG K mg fn vs H1 Q (fun cls dd H' => WE cls dd σ H')
theorem pe_callG {f : Str} {p pos : Pos} {es : List Expr} {t : TA} {ce : Es} (c : CtxOk C m X WE k) (hf : m.fns.contains f = true) (hg : L2.Gl X f) (hd : (f == ("__debug__" : Str)) = false) (ha : PA X es t) (hm : mtEs m ce es = true) (hne : es ≠ []) :
    PE X (.Call (.Name f p) es [] pos) (tCallG X.K X.mg WE (C.orc.fn f) t) := by
  obtain ⟨a, h1, h2⟩ := c.fns f (by simpa using hf)
  have F := c.fnc f a h1
  refine ⟨fun pins s σ H Q I h => ?_⟩
  refine wpAny_Call_Name_kw (ld_glob I hg h1 ?_ hd)
  cases ce with
  | nil =>
    cases es with
    | nil => exact absurd rfl hne
    | cons _ _ => simp [mtEs] at hm
  | cons c1 cr =>
    cases es with
    | nil => exact absurd rfl hne
    | cons e es =>
      simp only [mtEs, Bool.and_eq_true] at hm
      refine PySem.W.callWith_K (h₀ := X.base) I.ok.mod.kin h2 (thn (ha.run pos pins s σ H _ I h) fun us s1 ⟨vs, H1, I1, r, q⟩ => ⟨I1.kIn, ?_⟩) (nst_each hm.1.2 es X.env) (by rw [back_any, nst_all X.env hm.2])
      exact run_fnG c F I1 r q
theorem pe_callG0 {f : Str} {p pos : Pos} (c : CtxOk C m X WE k) (hf : m.fns.contains f = true) (hg : L2.Gl X f) (hd : (f == ("__debug__" : Str)) = false) :
    PE X (.Call (.Name f p) [] [] pos) (tCallG X.K X.mg WE (C.orc.fn f) tNil) := by
  obtain ⟨a, h1, h2⟩ := c.fns f (by simpa using hf)
  have F := c.fnc f a h1
  refine ⟨fun pins s σ H Q I h => ?_⟩
  refine wpAny_Call_Name_kw (ld_glob I hg h1 ?_ hd)
  exact PySem.W.callWith_K0 I.kIn h2 (run_fnG (us := []) c F I .nil h)
/-- f(e, ..), f a name of the frame that holds a def -/
def tCalG (K : PySem.W.Frag) (mg : Str → Option Value) (WE : WX) (C : Cx') (i : Nat) (t : TA) : TE := fun σ H Q => ∃ a f, σ[i]? = some (some (.ref a)) ∧ mg f = some (.ref a) ∧ PySem.W.keepIn K (.ref a) = true ∧ t σ H fun vs H1 => spG K mg (C.orc.fn f) vs H1 Q (fun cls dd H' => WE cls dd σ H')
theorem pe_calG {x : Str} {i : Nat} {p pos : Pos} {es : List Expr} {t : TA} {ce : Es} (c : CtxOk C m X WE k) (hv : varB m i x = true) (ha : PA X es t) (hm : mtEs m ce es = true) (hne : es ≠ []) :
    PE X (.Call (.Name x p) es [] pos) (tCalG X.K X.mg WE C i t) := by
  obtain ⟨v1, v2, v3, v4⟩ := c.var hv
  refine ⟨fun pins s σ H Q I ⟨a, f, hs, h1, h2, h⟩ => ?_⟩
  refine wpAny_Call_Name_kw (thn ((pe_var (pos := p) (i := i) v1 v2 v3 v4).run pins s σ H (fun v H1 => v = .ref a ∧ H1 = H) I ⟨.ref a, hs, rfl, rfl⟩) fun u s1 ⟨v, H1, I1, r1, q1⟩ => ?_)
  obtain ⟨ev, eH⟩ := q1
  subst ev eH
  obtain rfl : u = Value.ref a := r1
  cases ce with
  | nil =>
    cases es with
    | nil => exact absurd rfl hne
    | cons _ _ => simp [mtEs] at hm
  | cons c1 cr =>
    cases es with
    | nil => exact absurd rfl hne
    | cons e es =>
      simp only [mtEs, Bool.and_eq_true] at hm
      refine PySem.W.callWith_K (h₀ := X.base) I1.ok.mod.kin h2 (thn (ha.run pos pins s1 σ H1 _ I1 h) fun us s2 ⟨vs, H2, I2, r, q⟩ => ⟨I2.kIn, ?_⟩) (nst_each hm.1.2 es X.env) (by rw [back_any, nst_all X.env hm.2])
      exact run_fnG c (c.fnc f a h1) I2 r q
/-- f(), f a name of the frame: a def or a closure -/
def tCal0 (K : PySem.W.Frag) (mg : Str → Option Value) (WE : WX) (C : Cx') (i : Nat) : TE := fun σ H Q => ∃ a, σ[i]? = some (some (.ref a)) ∧
  ((∃ f, mg f = some (.ref a) ∧ PySem.W.keepIn K (.ref a) = true ∧ spG K mg (C.orc.fn f) [] H Q (fun cls dd H' => WE cls dd σ H')) ∨ ∃ l, spC K mg l (C.orc.clo l) a H Q (fun cls dd H' => WE cls dd σ H'))
theorem pe_cal0 {x : Str} {i : Nat} {p pos : Pos} (c : CtxOk C m X WE k) (hv : varB m i x = true) : PE X (.Call (.Name x p) [] [] pos) (tCal0 X.K X.mg WE C i) := by
  obtain ⟨v1, v2, v3, v4⟩ := c.var hv
  refine ⟨fun pins s σ H Q I ⟨a, hs, h⟩ => ?_⟩
  refine wpAny_Call_Name_kw (thn ((pe_var (pos := p) (i := i) v1 v2 v3 v4).run pins s σ H (fun v H1 => v = .ref a ∧ H1 = H) I ⟨.ref a, hs, rfl, rfl⟩) fun u s1 ⟨v, H1, I1, r1, q1⟩ => ?_)
  obtain ⟨ev, eH⟩ := q1
  subst ev eH
  obtain rfl : u = Value.ref a := r1
  rcases h with ⟨f, h1, h2, h⟩ | ⟨l, h⟩
  · exact PySem.W.callWith_K0 I1.kIn h2 (run_fnG (us := []) c (c.fnc f a h1) I1 .nil h)
  · obtain ⟨FF, st, W, μ, S, r, p⟩ := id h
    simp only [Rp] at r
    obtain ⟨f', o, c', oc, ef, hp, hg, _⟩ := r
    cases ef
    obtain ⟨c1, od, fd, osl, rfl⟩ := c.clf _ _ _ _ _ hp
    have ho : s1.heap.get? a = some (⟨c1, od, .func fd, osl⟩ : Obj) := (I1.hok a _ (S.sub _ _ hg)).1
    refine PySem.W.callWith_F0 ⟨_, _, _, _, ho⟩ ?_
    refine wpAny_call (codeAny_mono (c.clo l X.A X.stack s1 H1 a Q _ c.room I1.env0 h) fun r s' hq => ?_)
    cases r with
    | error e => exact c.tk e s' (XE.of_call I1 (fun _ _ _ h => h) hq)
    | ok fl =>
      cases fl with
      | ret u => exact I1.after hq
      | next => exact False.elim hq
      | brk => exact False.elim hq
      | cont => exact False.elim hq
end
end Ev
end
section
set_option Elab.async false
set_option linter.all false
set_option maxRecDepth 100000
set_option maxHeartbeats 1000003
namespace Ev
open PySem PySem.Spec PyProof.Rows L2
variable [Gh]
section
variable {C : Cx'} {m : MC} {X : Cx} {WE : WX} {k : Nat}
theorem lookup_relS {sc : Scope} {x : Str} {kd : NameKind} (hk : kd = .local ∨ kd = .cell) : ∀ {names : List (Str × NameKind)}, names.lookup x = some kd →
    (names.map fun (n, k) => if (k == NameKind.free && sc.kind == .function && sc.names.lookup n == some .cell) then (n, NameKind.cell) else (n, k)).lookup x = some kd
  | [], h => by simp at h
  | (n, k) :: r, h => by
    show List.lookup x ((if (k == NameKind.free && sc.kind == .function && sc.names.lookup n == some .cell) = true then (n, NameKind.cell) else (n, k)) :: _) = some kd
    by_cases hx : (x == n) = true
    · rw [List.lookup_cons, hx] at h
      have e : k = kd := Option.some.inj h
      subst e
      have f : (k == NameKind.free) = false := by rcases hk with rfl | rfl <;> rfl
      simp only [f, Bool.false_and, Bool.false_eq_true, if_false]
      rw [List.lookup_cons, hx]
    · have hx : (x == n) = false := by simpa using hx
      rw [List.lookup_cons, hx] at h
      have ih := lookup_relS (sc := sc) hk h
      by_cases hb : (k == NameKind.free && sc.kind == .function && sc.names.lookup n == some .cell) = true
      · rw [if_pos hb, List.lookup_cons]
        simp only [hx]
        exact ih
      · rw [if_neg hb, List.lookup_cons]
        simp only [hx]
        exact ih
/-- the context of a comprehension's block -/
theorem CtxOk.blk (c : CtxOk C m X WE k) (s : Shared) (H : Hp) (scope : Scope) (D : Addr) (cl : List (Str × Addr)) (fp : List Addr) :
    CtxOk C (m.blk scope) (X.blk s H scope (compEnvC scope cl D X.env) fp) (fun _ _ _ _ => False) k := by
  refine ⟨c.hN, c.nd, ?_, c.calm, c.room, ?_, fun x hx => ?_, c.con, c.isa, c.cns, c.bn, c.gcd, c.fns, c.fnc, c.clo, c.clf, fun h => absurd h (by simp [MC.blk]), c.k2, c.exc, c.exm⟩
  · show relabel scope X.env = relS scope m.sc
    rw [← c.hsc]
    rfl
  · rintro u s' ⟨a, B, sI, pins, σ, H, cls, d, e, I, nb, up, sky, na, os, ag, w⟩
    exact w
  · have hx' : locB scope x = true := hx
    unfold locB at hx'
    show L2.Loc (relS scope X.env.scope) x ∧ ((scope.names.lookup x == some .cell) = true ∨ (relS scope X.env.scope).names.lookup x = some .local)
    split at hx'
    · rename_i e
      have := lookup_relS (sc := X.env.scope) (.inl rfl) e
      exact ⟨.inl this, .inr this⟩
    · rename_i e
      have := lookup_relS (sc := X.env.scope) (.inr rfl) e
      exact ⟨.inr this, .inl (by rw [e]; rfl)⟩
    · cases hx'

/-! ### targets -/
def gP (K : PySem.W.Frag) (mg : Str → Option Value) (vs : List Nat) (t : Tg) : TG := fun v σ H Q => ∃ FF env st W μ d e', SA K mg FF H W μ st ∧ RE K mg W μ σ env ∧ Rp K mg W d v ∧ asgP t d env = some e' ∧
  ∀ σ', RE K mg W μ σ' e' → σ'.length = σ.length → (∀ j, j ∉ vs → σ'[j]? = σ[j]?) → Q σ' H
def gPs (K : PySem.W.Frag) (mg : Str → Option Value) (vs : List Nat) (t : Tgs) : TGs := fun us σ H Q => ∃ FF env st W μ ds e', SA K mg FF H W μ st ∧ RE K mg W μ σ env ∧ Rps K mg W ds us ∧ asgPs t ds env = some e' ∧
  ∀ σ', RE K mg W μ σ' e' → σ'.length = σ.length → (∀ j, j ∉ vs → σ'[j]? = σ[j]?) → Q σ' H
theorem _root_.L2.PG.imp {X : Cx} {e : Expr} {t t' : TG} (p : PG X e t) (h : ∀ v σ H Q, t' v σ H Q → t v σ H Q) : PG X e t' := ⟨fun pins s σ H v u Q I r q => p.run pins s σ H v u Q I r (h _ _ _ _ q)⟩
theorem _root_.L2.PGs.imp {X : Cx} {e : List Expr} {t t' : L2.TGs} (p : PGs X e t) (h : ∀ v σ H Q, t' v σ H Q → t v σ H Q) : PGs X e t' := ⟨fun pins s σ H v u Q I r q => p.run pins s σ H v u Q I r (h _ _ _ _ q)⟩
theorem _root_.L2.PG.or {X : Cx} {e : Expr} {t t' : TG} (p : PG X e t) (p' : PG X e t') : PG X e (fun v σ H Q => t v σ H Q ∨ t' v σ H Q) := ⟨fun pins s σ H v u Q I r q => q.elim (p.run pins s σ H v u Q I r) (p'.run pins s σ H v u Q I r)⟩
theorem asg_each {m : MC} {vs : List Nat} : ∀ {c : Tgs} {es : List Expr} (env : Env), mtTgs m vs c es = true → (assignEach es env).length = es.length ∧ (assignEach es env).findIdx? (·.1) = none
  | .nil, es, env, h => by
    cases es with
    | nil => exact ⟨rfl, rfl⟩
    | cons _ _ => simp [mtTgs] at h
  | .cons t r, es, env, h => by
    cases es with
    | nil => simp [mtTgs] at h
    | cons x xs =>
      simp only [mtTgs, Bool.and_eq_true] at h
      obtain ⟨ih1, ih2⟩ := asg_each env h.2
      have e : assignEach (x :: xs) env = (false, assign x env) :: assignEach xs env := by
        have := h.1.2
        cases x <;> first | rfl | cases this
      rw [e]
      refine ⟨by simp [ih1], ?_⟩
      rw [List.findIdx?_cons, ih2]
      rfl
theorem asgPs_len {vs : List Nat} : ∀ {ts : Tgs} {es : List Expr} {xs : List D} {env e' : En}, mtTgs m vs ts es = true → asgPs ts xs env = some e' → xs.length = es.length
  | .nil, es, xs, env, e', h1, h2 => by
    cases es <;> cases xs <;> first | rfl | (simp [mtTgs] at h1; done) | (simp [asgPs] at h2; done)
  | .cons t r, es, xs, env, e', h1, h2 => by
    cases es with
    | nil => simp [mtTgs] at h1
    | cons y ys =>
      cases xs with
      | nil => simp [asgPs] at h2
      | cons x xs =>
        simp only [mtTgs, Bool.and_eq_true] at h1
        simp only [asgPs] at h2
        split at h2
        · rw [List.length_cons, List.length_cons, asgPs_len h1.2 h2]
        · cases h2
mutual
theorem sndTg (c : CtxOk C m X WE k) (vs : List Nat) (t : Tg) (a : Expr) (h : mtTg m vs t a = true) : PG X a (gP X.K X.mg vs t) := by
  match t with
  | .name i =>
    cases a with
    | Name x pos =>
      simp only [mtTg, Bool.and_eq_true] at h
      obtain ⟨h1, h2, h3⟩ := c.tgt h.1
      refine (pg_name (c.hN ▸ c.nd) h1 h2 h3).imp ?_
      rintro v σ H Q ⟨FF, env, st, W, μ, d, e', S, E, r, ea, q⟩
      simp only [asgP, Option.some.injEq] at ea
      subst ea
      refine q _ (E.set r.a) (by rw [List.length_set]) fun j hj => ?_
      rw [List.getElem?_set_ne]
      intro e
      subst e
      exact hj (of_decide_eq_true h.2)
    | _ => simp [mtTg] at h
  | .tup ts =>
    cases a with
    | Tuple es kk pos =>
      simp only [mtTg] at h
      have hs := sndTgs c vs ts es h
      obtain ⟨l1, l2⟩ := asg_each X.env h
      refine ((pg_tup c.calm hs l1 l2).or (pg_lst c.calm hs l1 l2)).imp ?_
      rintro v σ H Q ⟨FF, env, st, W, μ, d, e', S, E, r, ea, q⟩
      cases d with
      | tup xs =>
        simp only [asgP] at ea
        obtain ⟨t, us, rfl, q1, q2⟩ := Rp.sqT r S.sub
        exact .inl ⟨t, us, rfl, q1, by rw [← q2.length, asgPs_len h ea], FF, env, st, W, μ, xs, e', S, E, q2, ea, q⟩
      | lst xs =>
        simp only [asgP] at ea
        obtain ⟨t, us, rfl, q1, q2⟩ := Rp.lstH r S.sub
        exact .inr ⟨t, us, rfl, SqL.of q1, by rw [← q2.length, asgPs_len h ea], FF, env, st, W, μ, xs, e', S, E, q2, ea, q⟩
      | _ => simp [asgP] at ea
    | _ => simp [mtTg] at h
  | .ix _ _ => simp [mtTg] at h
theorem sndTgs (c : CtxOk C m X WE k) (vs : List Nat) (t : Tgs) (a : List Expr) (h : mtTgs m vs t a = true) : PGs X a (gPs X.K X.mg vs t) := by
  match t with
  | .nil =>
    cases a with
    | nil =>
      refine pgs_nil.imp ?_
      rintro v σ H Q ⟨FF, env, st, W, μ, ds, e', S, E, r, ea, q⟩
      cases ds with
      | nil =>
        simp only [Rps] at r
        simp only [asgPs, Option.some.injEq] at ea
        subst ea
        exact ⟨r, q σ E rfl fun _ _ => rfl⟩
      | cons _ _ => simp [asgPs] at ea
    | cons _ _ => simp [mtTgs] at h
  | .cons t r =>
    cases a with
    | nil => simp [mtTgs] at h
    | cons x xs =>
      simp only [mtTgs, Bool.and_eq_true] at h
      have h1 := sndTg c vs t x h.1.1
      have h2 := sndTgs c vs r xs h.2
      refine (pgs_cons h1 h2 (by have := h.1.2; cases x <;> first | rfl | cases this)).imp ?_
      rintro v σ H Q ⟨FF, env, st, W, μ, ds, e', S, E, rr, ea, q⟩
      cases ds with
      | nil => simp [asgPs] at ea
      | cons d ds =>
        simp only [Rps] at rr
        obtain ⟨u, us, rfl, r1, r2⟩ := rr
        simp only [asgPs] at ea
        split at ea
        · rename_i e1 ee
          exact ⟨u, us, rfl, FF, env, st, W, μ, d, e1, S, E, r1, ee, fun σ1 E1 l1 n1 => ⟨FF, e1, st, W, μ, ds, e', S, E1, r2, ea, fun σ2 E2 l2 n2 => q σ2 E2 (l2.trans l1) fun j hj => (n2 j hj).trans (n1 j hj)⟩⟩
        · cases ea
end
end
end Ev
end
section
set_option Elab.async false
set_option linter.all false
set_option maxRecDepth 100000
set_option maxHeartbeats 1000003
namespace Ev
open PySem PySem.Spec PyProof.Rows L2
variable [Gh]
section
variable {K : PySem.W.Frag} {mg : Str → Option Value} {FF : List (Addr × HO)} {H : Hp} {W : Vw} {μ : List Addr} {st : Sto}
/-- an address that none of the rest speaks of -/
structure Free (FF : List (Addr × HO)) (W : Vw) (μ : List Addr) (st : Sto) (p : Addr) : Prop where
  g : W.G p = none
  m : ∀ (k : Nat) (o : MO), st[k]? = some o → o.live = true → μ[k]? ≠ some p
  f : ∀ q ∈ FF, q.1 ≠ p
theorem SA.free {p : Addr} (S : SA K mg FF H W μ st) (hp : H p = none) : Free FF W μ st p :=
  ⟨S.gnone hp, fun k o e l => S.nmu hp e l, fun q hq e => by
    have := (S.ff q hq).1
    rw [e, hp] at this
    cases this⟩
theorem SA.pop {q : Addr × HO} (S : SA K mg (q :: FF) H W μ st) : SA K mg FF H W μ st :=
  ⟨S.sub, S.len, S.sto, S.inj, fun p hp => S.ff p (List.mem_cons_of_mem _ hp)⟩
theorem SA.freeT {p : Addr} {o : HO} (S : SA K mg ((p, o) :: FF) H W μ st) (hf : ∀ q ∈ FF, q.1 ≠ p) : Free FF W μ st p ∧ H p = some o :=
  let h := S.ff (p, o) (List.mem_cons_self ..)
  ⟨⟨h.2.1, h.2.2, hf⟩, h.1⟩
theorem SA.updF {p : Addr} {o : HO} (S : SA K mg FF H W μ st) (f : Free FF W μ st p) : SA K mg FF (upd H p o) W μ st where
  sub := fun a u h => by
    rw [upd_ne (fun z => by rw [z, f.g] at h; cases h)]
    exact S.sub a u h
  len := S.len
  sto := fun k u e => by
    cases hl : u.live with
    | false => exact (S.sto k u e).fz hl (LeW.refl _)
    | true => exact (S.sto k u e).mv (LeW.refl _) fun a v ea h1 h2 => ⟨by rw [upd_ne (fun z => f.m k u e hl (by rw [← z]; exact ea))]; exact h1, h2⟩
  inj := S.inj
  ff := fun q hq => by
    obtain ⟨h1, h2, h3⟩ := S.ff q hq
    exact ⟨by rw [upd_ne (f.f q hq)]; exact h1, h2, h3⟩
theorem SA.push {p : Addr} {o : HO} (S : SA K mg FF H W μ st) (f : Free FF W μ st p) : SA K mg ((p, o) :: FF) (upd H p o) W μ st := by
  have S1 := S.updF (o := o) f
  exact ⟨S1.sub, S1.len, S1.sto, S1.inj, fun q hq => by
    rcases List.mem_cons.mp hq with e | hq
    · subst e
      exact ⟨upd_same, f.g, f.m⟩
    · exact S1.ff q hq⟩
/-- the tracked object is rewritten -/
theorem SA.ffw {p : Addr} {o o' : HO} (S : SA K mg ((p, o) :: FF) H W μ st) (hf : ∀ q ∈ FF, q.1 ≠ p) : SA K mg ((p, o') :: FF) (upd H p o') W μ st := S.pop.push (S.freeT hf).1
theorem SA.putF {p : Addr} {o : HO} (S : SA K mg FF H W μ st) (f : Free FF W μ st p) (hp : H p = some o) : SA K mg FF H (W.put p o) μ st := by
  refine ⟨fun a u h => ?_, S.len, fun k u e => ?_, S.inj, fun q hq => ?_⟩
  · have h' : upd W.G p o a = some u := h
    by_cases z : a = p
    · subst z
      rw [upd_same] at h'
      cases h'
      exact hp
    · rw [upd_ne z] at h'
      exact S.sub a u h'
  · cases hl : u.live with
    | false => exact (S.sto k u e).fz hl (LeW.put f.g)
    | true =>
      refine (S.sto k u e).mv (LeW.put f.g) fun a v ea h1 h2 => ⟨h1, ?_⟩
      show upd W.G p o a = none
      rw [upd_ne (fun z => f.m k u e hl (by rw [← z]; exact ea))]
      exact h2
  · obtain ⟨h1, h2, h3⟩ := S.ff q hq
    refine ⟨h1, ?_, h3⟩
    show upd W.G p o q.1 = none
    rw [upd_ne (f.f q hq)]
    exact h2
theorem SA.newF {p : Addr} {mo : MO} (S : SA K mg FF H W μ st) (f : Free FF W μ st p) (hm : MoR K mg W H (some p) mo) : SA K mg FF H W (μ ++ [p]) (st ++ [mo]) := by
  have hl : ∀ {k : Nat}, k < st.length → (μ ++ [p])[k]? = μ[k]? := fun {k} hk => List.getElem?_append_left (by rw [S.len]; exact hk)
  have he : (μ ++ [p])[st.length]? = some p := by rw [← S.len]; simp
  refine ⟨S.sub, by rw [List.length_append, List.length_append, S.len]; rfl, fun k u e => ?_, fun j k u u' a e1 e2 l1 l2 m1 m2 => ?_, fun q hq => ?_⟩
  · rcases get_snoc e with ⟨hk, e⟩ | ⟨hk, e⟩
    · rw [hl hk]
      exact S.sto k u e
    · rw [hk, he, e]
      exact hm
  · rcases get_snoc e1 with ⟨hj, e1⟩ | ⟨hj, e1⟩ <;> rcases get_snoc e2 with ⟨hk, e2⟩ | ⟨hk, e2⟩
    · rw [hl hj] at m1
      rw [hl hk] at m2
      exact S.inj j k u u' a e1 e2 l1 l2 m1 m2
    · subst hk
      rw [he] at m2
      cases m2
      rw [hl hj] at m1
      exact absurd m1 (f.m _ _ e1 l1)
    · subst hj
      rw [he] at m1
      cases m1
      rw [hl hk] at m2
      exact absurd m2 (f.m _ _ e2 l2)
    · omega
  · obtain ⟨h1, h2, h3⟩ := S.ff q hq
    refine ⟨h1, h2, fun k u e l => ?_⟩
    rcases get_snoc e with ⟨hk, e⟩ | ⟨hk, e⟩
    · rw [hl hk]
      exact h3 k u e l
    · subst hk
      rw [he]
      intro z
      cases z
      exact f.f q hq rfl
/-- the tracked object is given out, plain or changing -/
theorem alloc_lstF {WE : WX} {τ : L2.St} {Q : VK} {m : Bool} {p : Addr} {ds : List D} {vs : List V} (S : SA K mg ((p, .lst vs) :: FF) H W μ st) (hf : ∀ q ∈ FF, q.1 ≠ p) (r : Rps K mg W ds vs)
    (h : Pt K mg WE (relA K mg) FF τ W μ (alloc m (.lst ds) st) Q) : Q (.ref p) H := by
  obtain ⟨f, hp⟩ := S.freeT hf
  cases m with
  | true => exact h _ _ W (μ ++ [p]) (S.pop.newF f ⟨p, vs, rfl, hp, f.g, r⟩) ⟨LeW.refl _, [p], rfl⟩ ⟨p, (by rw [← S.len]; simp), rfl⟩
  | false =>
    have le := LeW.put (o := .lst vs) f.g
    refine h _ _ _ _ (S.pop.putF f hp) ⟨le, [], by simp⟩ (Rp.a ?_)
    simp only [Rp]
    exact ⟨_, vs, rfl, upd_same, r.mono le⟩
theorem alloc_dctF {WE : WX} {τ : L2.St} {Q : VK} {m : Bool} {p : Addr} {ks : List Ky} {ds : List D} {vs : List V} (S : SA K mg ((p, .dK (ks.zip vs)) :: FF) H W μ st) (hf : ∀ q ∈ FF, q.1 ≠ p) (l : ks.length = ds.length) (n : ks.Nodup) (r : Rps K mg W ds vs)
    (h : Pt K mg WE (relA K mg) FF τ W μ (alloc m (.dct ks ds) st) Q) : Q (.ref p) H := by
  obtain ⟨f, hp⟩ := S.freeT hf
  cases m with
  | true => exact h _ _ W (μ ++ [p]) (S.pop.newF f ⟨p, vs, rfl, hp, f.g, l, n, r⟩) ⟨LeW.refl _, [p], rfl⟩ ⟨p, (by rw [← S.len]; simp), rfl⟩
  | false =>
    have le := LeW.put (o := .dK (ks.zip vs)) f.g
    refine h _ _ _ _ (S.pop.putF f hp) ⟨le, [], by simp⟩ (Rp.a ?_)
    simp only [Rp]
    exact ⟨_, vs, rfl, upd_same, l, n, r.mono le⟩
end

/-! ### what is walked -/
/-- the iterator J hands out the data ds -/
def ItR (K : PySem.W.Frag) (mg : Str → Option Value) (W0 : Vw) (ds : List D) (J : L2.It) : Prop := ∀ (i : Nat) (FF : List (Addr × HO)) (H : Hp) (W : Vw) (μ : List Addr) (st : Sto), LeW W0 W → SA K mg FF H W μ st →
  (i = ds.length → J.stop i H) ∧ ∀ d, ds[i]? = some d → J.go i H ∧ ∀ x H', J.yld i H x H' → ∃ W', SA K mg FF H' W' μ st ∧ Ex2 W μ W' μ ∧ Rp K mg W' d x
def relI (K : PySem.W.Frag) (mg : Str → Option Value) : Rl (List D) L2.It := fun W _ ds J => ItR K mg W ds J
section
variable {K : PySem.W.Frag} {mg : Str → Option Value} {WE : WX} {W : Vw}
theorem ItR.mono {W' : Vw} {ds : List D} {J : L2.It} (l : LeW W W') (h : ItR K mg W ds J) : ItR K mg W' ds J := fun i FF H W2 μ st le S => h i FF H W2 μ st (l.trans le) S
theorem ItR.list {a : Addr} {vs : List V} {ds : List D} (h : SqL K W.G a vs) (r : Rps K mg W ds vs) : ItR K mg W ds (Itl K a) := by
  intro i FF H W' μ st le S
  have hs := sqL_sub (le.g.trans S.sub) h
  refine ⟨fun hl => ⟨vs, hs, by rw [← r.length, hl]; exact Nat.le_refl _⟩, fun d hd => ?_⟩
  obtain ⟨v, hv, rv⟩ := r.get hd
  refine ⟨⟨vs, v, hs, hv⟩, fun x H' ⟨e, y⟩ => ?_⟩
  subst e
  have := y vs hs
  rw [hv] at this
  cases this
  exact ⟨W', S, Ex2.refl _ _, rv.mono le⟩
theorem ItR.tup {a : Addr} {vs : List V} {ds : List D} (h : SqT K W.G a vs) (r : Rps K mg W ds vs) : ItR K mg W ds (Itt K a) := by
  intro i FF H W' μ st le S
  have hs := sqT_sub (le.g.trans S.sub) h
  refine ⟨fun hl => ⟨vs, hs, by rw [← r.length, hl]; exact Nat.le_refl _⟩, fun d hd => ?_⟩
  obtain ⟨v, hv, rv⟩ := r.get hd
  refine ⟨⟨vs, v, hs, hv⟩, fun x H' ⟨e, y⟩ => ?_⟩
  subst e
  have := y vs hs
  rw [hv] at this
  cases this
  exact ⟨W', S, Ex2.refl _ _, rv.mono le⟩
theorem ItR.range {lo : Int} {n : Nat} : ItR K mg W ((List.range n).map fun (i : Nat) => D.int (lo + i)) (Itr lo n) := by
  intro i FF H W' μ st le S
  refine ⟨fun hl => (show n ≤ i by simp at hl; omega), fun d hd => ?_⟩
  rw [List.getElem?_map] at hd
  obtain ⟨j, hj, rfl⟩ := Option.map_eq_some_iff.mp hd
  have hi : i < n := by
    have := (List.getElem?_eq_some_iff.mp hj).1
    simpa using this
  rw [List.getElem?_range hi] at hj
  cases hj
  refine ⟨hi, fun x H' ⟨e, y⟩ => ?_⟩
  subst e y
  exact ⟨W', S, Ex2.refl _ _, by simp only [Rp]⟩
end
end Ev
end
section
set_option Elab.async false
set_option linter.all false
set_option maxRecDepth 100000
set_option maxHeartbeats 1000003
namespace Ev
open PySem PySem.Spec PyProof.Rows L2
variable [Gh]
def wipeE (own : List (Str × Nat)) (e : En) : En := own.foldl (fun e p => e.set p.2 none) e
theorem wipeE_some : ∀ {own : List (Str × Nat)} {e : En} {i : Nat} {d : D}, (wipeE own e)[i]? = some (some d) → e[i]? = some (some d) ∧ i ∉ own.map (·.2)
  | [], e, i, d, h => ⟨h, by simp⟩
  | p :: own, e, i, d, h => by
    have h' : (wipeE own (e.set p.2 none))[i]? = some (some d) := h
    obtain ⟨h1, h2⟩ := wipeE_some h'
    by_cases hi : p.2 = i
    · rw [hi] at h1
      by_cases hl : i < e.length
      · rw [List.getElem?_set_self hl] at h1
        cases h1
      · rw [List.getElem?_eq_none (by simpa using hl)] at h1
        cases h1
    · rw [List.getElem?_set_ne hi] at h1
      exact ⟨h1, by simp only [List.map_cons, List.mem_cons, not_or]; exact ⟨fun e => hi e.symm, h2⟩⟩
theorem wipeE_length : ∀ (own : List (Str × Nat)) (e : En), (wipeE own e).length = e.length
  | [], e => rfl
  | p :: own, e => by
    show (wipeE own (e.set p.2 none)).length = _
    rw [wipeE_length, List.length_set]
theorem wipe_get {σ : L2.St} {i : Nat} : ∀ {vs : List Nat}, i ∉ vs → (wipe σ vs)[i]? = σ[i]?
  | [], _ => rfl
  | v :: vs, h => by
    simp only [List.mem_cons, not_or] at h
    unfold wipe
    rw [List.getElem?_set_ne (fun e => h.1 e.symm), wipe_get h.2]
theorem wipe_in {σ : L2.St} {i : Nat} : ∀ {vs : List Nat}, i ∈ vs → i < σ.length → (wipe σ vs)[i]? = some none
  | [], h, _ => nomatch h
  | v :: vs, h, hl => by
    unfold wipe
    by_cases e : v = i
    · subst e
      rw [List.getElem?_set_self (by rw [wipe_length]; exact hl)]
    · rw [List.getElem?_set_ne e]
      rcases List.mem_cons.mp h with h | h
      · exact absurd h.symm e
      · exact wipe_in h hl
theorem wipe_eq {σ τ : L2.St} {vs : List Nat} (hl : τ.length = σ.length) (h : ∀ j, j ∉ vs → τ[j]? = σ[j]?) : wipe τ vs = wipe σ vs := by
  apply List.ext_getElem?
  intro i
  by_cases hi : i ∈ vs
  · by_cases hs : i < σ.length
    · rw [wipe_in hi hs, wipe_in hi (by omega)]
    · rw [List.getElem?_eq_none (by rw [wipe_length]; omega), List.getElem?_eq_none (by rw [wipe_length]; omega)]
  · rw [wipe_get hi, wipe_get hi, h i hi]
theorem wipe_wipe {σ : L2.St} {vs : List Nat} : wipe (wipe σ vs) vs = wipe σ vs := wipe_eq (wipe_length _ _) fun j hj => wipe_get hj
section
variable {K : PySem.W.Frag} {mg : Str → Option Value} {WE : WX} {FF : List (Addr × HO)} {W : Vw} {μ : List Addr} {σ : L2.St} {env : En}
theorem RE.wipe {own : List (Str × Nat)} (E : RE K mg W μ σ env) : RE K mg W μ (wipe σ (own.map (·.2))) (wipeE own env) := by
  refine ⟨by rw [wipe_length, wipeE_length]; exact E.len, fun i d h => ?_⟩
  obtain ⟨h1, h2⟩ := wipeE_some h
  obtain ⟨v, e, r⟩ := E.at_ i d h1
  exact ⟨v, by rw [wipe_get h2]; exact e, r⟩
variable (C : Cx')
/-- one turn of a comprehension -/
def turnD (own : List (Str × Nat)) (tg : Tg) (cs : Ts) (elt : E) (e : En) (x : D) : M (Option D) := match asgP tg x (wipeE own e) with
  | some e' => bnd (evTs C cs e') fun r => (match r with
    | true => bnd (evE C elt e') fun d => bnd (frzD d) fun d => ret (some d)
    | false => ret none)
  | none => no
theorem evE_comp (m : Bool) (own : List (Str × Nat)) (tg : Tg) (it : Ev.It) (cs : Ts) (elt : E) (e : En) :
    evE C (.comp m own tg it cs elt) e = bnd (evItQ C it e) fun q => bnd (nox (loopC (turnD C own tg cs elt e) q.1)) fun ys => bnd (shwD q.2) fun _ => if decide (ys.length ≤ 1000000) then alloc m (.lst ys) else no := rfl
theorem nox_pt {α γ δ : Type} {rel : Rl γ δ} {τ : L2.St} {mm : M α} {f : α → M γ} {Q : δ → Hp → Prop} {st : Sto} (h : Pt K mg WE rel FF τ W μ (bnd (nox mm) f st) Q) : ∃ a st', mm st = .ok a st' ∧ Pt K mg WE rel FF τ W μ (f a st') Q := by
  unfold bnd nox at h
  cases e : mm st with
  | ok a st' =>
    rw [e] at h
    exact ⟨a, st', rfl, h⟩
  | exc x st' =>
    rw [e] at h
    exact False.elim h
  | no =>
    rw [e] at h
    exact False.elim h
theorem bnd_inv {α β : Type} {mm : M α} {f : α → M β} {st st' : Sto} {b : β} (h : bnd mm f st = .ok b st') : ∃ a st1, mm st = .ok a st1 ∧ f a st1 = .ok b st' := by
  unfold bnd at h
  cases e : mm st with
  | ok a st1 =>
    rw [e] at h
    exact ⟨a, st1, rfl, h⟩
  | exc x st1 => rw [e] at h; cases h
  | no => rw [e] at h; cases h
/-! ### a changing list kept aside -/
theorem SA.sub_ff {FF FF' : List (Addr × HO)} {st : Sto} {H : Hp} (S : SA K mg FF H W μ st) (h : ∀ q ∈ FF', q ∈ FF) : SA K mg FF' H W μ st := ⟨S.sub, S.len, S.sto, S.inj, fun q hq => S.ff q (h q hq)⟩
theorem SA.hid {st : Sto} {H : Hp} {k : Nat} {xs : List D} (S : SA K mg FF H W μ st) (e : st[k]? = some (.lst xs)) : ∃ a vs, μ[k]? = some a ∧ Rps K mg W xs vs ∧ (∀ q ∈ FF, q.1 ≠ a) ∧ SA K mg ((a, .lst vs) :: FF) H W μ (st.set k (.env [] [])) := by
  obtain ⟨a, vs, ea, h1, h2, h3⟩ := S.sto k _ e
  have hk : k < st.length := (List.getElem?_eq_some_iff.mp e).1
  have old : ∀ {j : Nat} {o : MO}, (st.set k (.env [] []))[j]? = some o → (j = k ∧ o = .env [] []) ∨ (j ≠ k ∧ st[j]? = some o) := fun {j o} ej => by
    by_cases hj : j = k
    · subst hj
      rw [List.getElem?_set_self hk] at ej
      cases ej
      exact .inl ⟨rfl, rfl⟩
    · rw [List.getElem?_set_ne (fun z => hj z.symm)] at ej
      exact .inr ⟨hj, ej⟩
  have live : ∀ {j : Nat} {o : MO}, (st.set k (.env [] []))[j]? = some o → o.live = true → j ≠ k ∧ st[j]? = some o := fun {j o} ej l => by
    rcases old ej with ⟨_, rfl⟩ | h
    · cases l
    · exact h
  refine ⟨a, vs, ea, h3, fun q hq z => (S.ff q hq).2.2 k _ e rfl (by rw [z]; exact ea), S.sub, by rw [List.length_set]; exact S.len, fun j o ej => ?_, fun i j o o' b e1 e2 l1 l2 m1 m2 => S.inj i j o o' b (live e1 l1).2 (live e2 l2).2 l1 l2 m1 m2, fun q hq => ?_⟩
  · rcases old ej with ⟨_, rfl⟩ | ⟨_, h⟩
    · exact True.intro
    · exact S.sto j o h
  · rcases List.mem_cons.mp hq with rfl | hq
    · exact ⟨h1, h2, fun j o ej l mj => (live ej l).1 (S.inj j k o _ a (live ej l).2 e l rfl mj ea)⟩
    · obtain ⟨g1, g2, g3⟩ := S.ff q hq
      exact ⟨g1, g2, fun j o ej l => g3 j o (live ej l).2 l⟩
theorem SA.shw {st : Sto} {H : Hp} {k : Nat} {xs : List D} {a : Addr} {vs : List V} (S : SA K mg ((a, .lst vs) :: FF) H W μ st) (hf : ∀ q ∈ FF, q.1 ≠ a) (e : st[k]? = some (.env [] [])) (ea : μ[k]? = some a) (r : Rps K mg W xs vs) : SA K mg FF H W μ (st.set k (.lst xs)) := by
  obtain ⟨h1, h2, h3⟩ := S.ff _ (List.mem_cons_self ..)
  have hk : k < st.length := (List.getElem?_eq_some_iff.mp e).1
  have old : ∀ {j : Nat} {o : MO}, (st.set k (.lst xs))[j]? = some o → (j = k ∧ o = .lst xs) ∨ (j ≠ k ∧ st[j]? = some o) := fun {j o} ej => by
    by_cases hj : j = k
    · subst hj
      rw [List.getElem?_set_self hk] at ej
      cases ej
      exact .inl ⟨rfl, rfl⟩
    · rw [List.getElem?_set_ne (fun z => hj z.symm)] at ej
      exact .inr ⟨hj, ej⟩
  refine ⟨S.sub, by rw [List.length_set]; exact S.len, fun j o ej => ?_, fun i j o o' b e1 e2 l1 l2 m1 m2 => ?_, fun q hq => ?_⟩
  · rcases old ej with ⟨rfl, rfl⟩ | ⟨_, h⟩
    · exact ⟨a, vs, ea, h1, h2, r⟩
    · exact S.sto j o h
  · rcases old e1 with ⟨rfl, rfl⟩ | ⟨n1, g1⟩ <;> rcases old e2 with ⟨rfl, rfl⟩ | ⟨n2, g2⟩
    · rfl
    · rw [ea] at m1
      cases m1
      exact absurd m2 (h3 j o' g2 l2)
    · rw [ea] at m2
      cases m2
      exact absurd m1 (h3 i o g1 l1)
    · exact S.inj i j o o' b g1 g2 l1 l2 m1 m2
  · obtain ⟨g1, g2, g3⟩ := S.ff q (List.mem_cons_of_mem _ hq)
    refine ⟨g1, g2, fun j o ej l => ?_⟩
    rcases old ej with ⟨rfl, rfl⟩ | ⟨_, h⟩
    · rw [ea]
      intro z
      cases z
      exact hf q hq rfl
    · exact g3 j o h l
/-- the iterator J hands out the data ds, while the list kept aside stays -/
def ItH (K : PySem.W.Frag) (mg : Str → Option Value) (W0 : Vw) (hv : Option (Addr × List V)) (ds : List D) (J : L2.It) : Prop := ∀ (i : Nat) (FF : List (Addr × HO)) (H : Hp) (W : Vw) (μ : List Addr) (st : Sto), LeW W0 W → (∀ p, hv = some p → (p.1, HO.lst p.2) ∈ FF) → SA K mg FF H W μ st →
  (i = ds.length → J.stop i H) ∧ ∀ d, ds[i]? = some d → J.go i H ∧ ∀ x H', J.yld i H x H' → ∃ W', SA K mg FF H' W' μ st ∧ Ex2 W μ W' μ ∧ Rp K mg W' d x
def HidR (K : PySem.W.Frag) (mg : Str → Option Value) (W : Vw) (μ : List Addr) (FF : List (Addr × HO)) : Option (Nat × List D) → Option (Addr × List V) → List (Addr × HO) → Prop
  | none, none, FF' => FF' = FF
  | some (k, xs), some (a, vs), FF' => FF' = (a, .lst vs) :: FF ∧ (∀ q ∈ FF, q.1 ≠ a) ∧ μ[k]? = some a ∧ Rps K mg W xs vs
  | _, _, _ => False
theorem HidR.mem {FF' : List (Addr × HO)} {h : Option (Nat × List D)} {hv : Option (Addr × List V)} (r : HidR K mg W μ FF h hv FF') : ∀ p, hv = some p → (p.1, HO.lst p.2) ∈ FF' := by
  rintro ⟨a, vs⟩ rfl
  cases h with
  | none => exact r.elim
  | some q =>
    obtain ⟨k, xs⟩ := q
    obtain ⟨rfl, _⟩ := r
    exact List.mem_cons_self ..
def PtQ (K : PySem.W.Frag) (mg : Str → Option Value) (WE : WX) (FF : List (Addr × HO)) (σ : L2.St) (W : Vw) (μ : List Addr) (r : R (List D × Option (Nat × List D))) (Q : L2.It → Hp → Prop) : Prop :=
  match r with
  | .ok q st' => ∀ J H1 W1 μ1 hv FF', HidR K mg W1 μ1 FF q.2 hv FF' → SA K mg FF' H1 W1 μ1 st' → Ex2 W μ W1 μ1 → ItH K mg W1 hv q.1 J → Q J H1
  | .exc x st' => ∀ H' W' μ' cls dd, SA K mg FF H' W' μ' st' → Ex2 W μ W' μ' → ExR K mg W' x cls dd → WE cls dd σ H'
  | .no => False
/-- a comprehension's row -/
def tQ (K : PySem.W.Frag) (mg : Str → Option Value) (WE : WX) (ev : En → M (List D × Option (Nat × List D))) : TI := fun σ H Q =>
  ∃ FF env st W μ, SA K mg FF H W μ st ∧ RE K mg W μ σ env ∧ PtQ K mg WE FF σ W μ (ev env st) Q
/-- nothing is kept aside -/
theorem tQ_rd {ev : En → M (List D)} {H : Hp} {Q : L2.It → Hp → Prop} (h : tQ K mg WE (fun e => bnd (ev e) fun xs => ret (xs, none)) σ H Q) : rd K mg WE (relI K mg) ev σ H Q := by
  obtain ⟨FF, env, st, W, μ, S, E, p⟩ := h
  refine ⟨FF, env, st, W, μ, S, E, ?_⟩
  dsimp only [bnd] at p
  cases e : ev env st with
  | ok xs st' =>
    rw [e] at p
    intro J H1 W1 μ1 S1 x r
    exact p J H1 W1 μ1 none FF rfl S1 x fun i FF H W μ st le _ S => r i FF H W μ st le S
  | exc x st' =>
    rw [e] at p
    exact p
  | no =>
    rw [e] at p
    exact p
theorem bnd_noE {α β : Type} {m : M α} {f : α → M β} {s : Sto} (h : m s = .no) : bnd m f s = .no := by
  unfold bnd
  rw [h]
theorem bnd_excE {α β : Type} {m : M α} {f : α → M β} {s s' : Sto} {x : Ex} (h : m s = .exc x s') : bnd m f s = .exc x s' := by
  unfold bnd
  rw [h]
/-- the row is shown again -/
theorem shw_pt {α γ : Type} {rel : Rl α γ} {τ : L2.St} {H : Hp} {f : M α} {Q : γ → Hp → Prop} {st : Sto} {hd : Option (Nat × List D)} {hv : Option (Addr × List V)} {FF' : List (Addr × HO)} {D : Addr} {o : HO} {W1 : Vw} {μ1 : List Addr}
    (r : HidR K mg W1 μ1 FF hd hv FF') (x : Ex2 W1 μ1 W μ) (S : SA K mg ((D, o) :: FF') H W μ st) (hf : ∀ q ∈ FF', q.1 ≠ D) (h : Pt K mg WE rel FF τ W μ (bnd (shwD hd) (fun _ => f) st) Q) :
    (∀ q ∈ FF, q.1 ≠ D) ∧ ∃ st', SA K mg ((D, o) :: FF) H W μ st' ∧ Pt K mg WE rel FF τ W μ (f st') Q := by
  cases hd with
  | none =>
    cases hv with
    | none =>
      obtain rfl : FF' = FF := r
      exact ⟨hf, st, S, h⟩
    | some p => exact r.elim
  | some q =>
    obtain ⟨k, xs⟩ := q
    cases hv with
    | none => exact r.elim
    | some p =>
      obtain ⟨a, vs⟩ := p
      obtain ⟨rfl, h1, h2, h3⟩ := r
      have hf2 : ∀ q ∈ FF, q.1 ≠ D := fun q hq => hf q (List.mem_cons_of_mem _ hq)
      refine ⟨hf2, ?_⟩
      have S2 : SA K mg ((a, .lst vs) :: (D, o) :: FF) H W μ st := S.sub_ff fun q hq => by
        simp only [List.mem_cons] at hq ⊢
        rcases hq with h | h | h
        · exact .inr (.inl h)
        · exact .inl h
        · exact .inr (.inr h)
      have hda : D ≠ a := fun z => hf (a, .lst vs) (List.mem_cons_self ..) z.symm
      by_cases ek : st[k]? = some (.env [] [])
      · obtain ⟨l, e⟩ := x.m
        have ea : μ[k]? = some a := by rw [e]; exact get_app h2
        have es : shwD (some (k, xs)) st = .ok () (st.set k (.lst xs)) := by
          simp only [shwD, ek]
        rw [bnd_ok es] at h
        exact ⟨_, S2.shw (fun q hq => by
          rcases List.mem_cons.mp hq with rfl | hq
          · exact hda
          · exact h1 q hq) ek ea (h3.mono x.w), h⟩
      · have es : shwD (some (k, xs)) st = .no := by
          simp only [shwD]
        rw [bnd_noE es] at h
        exact h.elim
/-- the comprehension's reading -/
theorem rd_comp {m : Bool} {own : List (Str × Nat)} {tg : Tg} {it : Ev.It} {cs : Ts} {elt : E} {H : Hp} {Q : VK} (h : rd K mg WE (relA K mg) (evE C (.comp m own tg it cs elt)) σ H Q) :
    tLc (tQ K mg WE (evItQ C it)) (gP K mg (own.map (·.2)) tg) (rd K mg (fun _ _ _ _ => False) relB (evTs C cs)) (rd K mg (fun _ _ _ _ => False) (relA K mg) (evE C elt)) (own.map (·.2)) σ H Q := by
  obtain ⟨FF0, env, st0, W0, μ0, S0, E0, p0⟩ := h
  refine ⟨FF0, env, st0, W0, μ0, S0, E0, ?_⟩
  rw [evE_comp] at p0
  cases eq : evItQ C it env st0 with
  | no =>
    rw [bnd_noE eq] at p0
    exact p0
  | exc x st' =>
    rw [bnd_excE eq] at p0
    exact p0
  | ok q st =>
  have p1 := p0
  rw [bnd_ok eq] at p1
  obtain ⟨xs, hd⟩ := q
  clear eq p0 S0
  intro J H1 W μ hv FF hr S x0 rj D hD
  have E := E0.mono x0
  have p := Pt.mono x0 p1
  have hmem := hr.mem
  obtain ⟨ys, st', hlp, p⟩ := nox_pt p
  have fD := S.free hD
  have hf : ∀ q ∈ FF, q.1 ≠ D := fD.f
  have hlen : ys.length ≤ 1000000 := by
    refine Decidable.byContradiction fun hn => ?_
    dsimp only at p
    rw [decide_eq_false hn] at p
    unfold bnd at p
    split at p
    · exact p.elim
    · rename_i heq
      cases hd with
      | none => cases heq
      | some q =>
        obtain ⟨k, zs⟩ := q
        simp only [shwD] at heq
        split at heq <;> cases heq
    · exact p.elim
  dsimp only at p
  rw [decide_eq_true hlen] at p
  simp only [if_true] at p
  let Pv : Nat → Hp → Prop := fun i H => ∃ W' μ' st_i acc accV rest, SA K mg ((D, .lst accV) :: FF) H W' μ' st_i ∧ Ex2 W μ W' μ' ∧ Rps K mg W' acc accV ∧ loopC (turnD C own tg cs elt env) (xs.drop i) st_i = .ok rest st' ∧ acc ++ rest = ys
  refine ⟨fun i n H => n = xs.length - i ∧ i ≤ xs.length ∧ Pv i H, ⟨xs.length, by simp, Nat.zero_le _, W, μ, st, [], [], ys, S.push fD, Ex2.refl _ _, Rps.nil, by simpa using hlp, rfl⟩, ?_⟩
  rintro i n H ⟨rfl, hi, W', μ', sti, acc, accV, rest, S', x', ra, hl, hy⟩
  obtain ⟨j1, j2⟩ := rj i _ H W' μ' sti x'.w (fun p hp => List.mem_cons_of_mem _ (hmem p hp)) S'
  by_cases hlt : i < xs.length
  · refine .inr ?_
    obtain ⟨d, hd⟩ : ∃ d, xs[i]? = some d := ⟨xs[i], by simp [hlt]⟩
    obtain ⟨j3, j4⟩ := j2 d hd
    refine ⟨j3, Pv (i + 1), fun H' p' => ⟨xs.length - (i + 1), by omega, rfl, hlt, p'⟩, fun x H' y => ?_⟩
    obtain ⟨W2, S2, x2, rx⟩ := j4 x H' y
    have hdrop : xs.drop i = d :: xs.drop (i + 1) := by
      rw [List.drop_eq_getElem_cons hlt]
      congr 1
      have := List.getElem?_eq_getElem hlt
      rw [hd] at this
      exact (Option.some.inj this).symm
    rw [hdrop] at hl
    obtain ⟨o, st1, ho, hr⟩ := bnd_inv (f := fun o => bnd (loopC (turnD C own tg cs elt env) (xs.drop (i + 1))) fun r => ret (consO o r)) hl
    obtain ⟨r, st2, hr1, hr2⟩ := bnd_inv hr
    cases hr2
    cases ea : asgP tg d (wipeE own env) with
    | none =>
      simp only [turnD, ea] at ho
      cases ho
    | some e' =>
      simp only [turnD, ea] at ho
      have E2 : RE K mg W2 μ' (wipe σ (own.map (·.2))) (wipeE own env) := (E.mono (x'.trans x2)).wipe
      refine ⟨_, _, sti, W2, μ', d, e', S2, E2, rx, ea, fun σ' E' l' n' => ⟨(wipe_eq l' n').trans wipe_wipe, ?_⟩⟩
      refine ⟨_, e', sti, W2, μ', S2, E', ?_⟩
      obtain ⟨b, st3, hb, hk⟩ := bnd_inv ho
      rw [hb]
      rintro b' H3 W3 μ3 S3 x3 rfl
      cases b with
      | false =>
        cases hk
        simp only [Bool.false_eq_true, if_false]
        exact ⟨W3, μ3, _, acc, accV, r, S3, (x'.trans x2).trans x3, ra.mono (x2.w.trans x3.w), hr1, hy⟩
      | true =>
        simp only [if_true]
        obtain ⟨dd, st4, hd1, hd2⟩ := bnd_inv hk
        refine ⟨_, e', _, W3, μ3, S3, E'.mono x3, ?_⟩
        rw [hd1]
        rintro v H4 W4 μ4 S4 x4 rv
        obtain ⟨dz, st5, hz1, hz2⟩ := bnd_inv hd2
        cases hz2
        obtain ⟨W5, S5, x5, rz⟩ := frz_ok S4 rv hz1
        have hacc : acc.length < sizeLine := by
          have := congrArg List.length hy
          simp only [List.length_append, consO, List.length_cons] at this
          have := line1m
          omega
        have ra5 := ra.mono ((x2.w.trans x3.w).trans (x4.w.trans x5.w))
        refine ⟨accV, (S5.freeT hf).2, by rw [← ra5.length]; exact hacc, W5, μ4, _, acc ++ [dz], accV ++ [v], r, S5.ffw hf, ((x'.trans x2).trans x3).trans (x4.trans x5), ra5.app (Rps.cons rz Rps.nil), hr1, ?_⟩
        rw [← hy]
        simp [consO]
  · have e : i = xs.length := by omega
    subst e
    refine .inl ⟨j1 rfl, ?_⟩
    rw [List.drop_length] at hl
    cases hl
    rw [List.append_nil] at hy
    subst hy
    obtain ⟨hf2, st2, S2, p2⟩ := shw_pt (K := K) (mg := mg) hr x' S' hf (Pt.mono x' p)
    exact alloc_lstF S2 hf2 ra p2
end
end Ev
end
section
set_option Elab.async false
set_option linter.all false
set_option maxRecDepth 100000
set_option maxHeartbeats 1000003
namespace Ev
open PySem PySem.Spec PyProof.Rows L2
variable [Gh]
section
variable {K : PySem.W.Frag} {mg : Str → Option Value} {WE : WX} {α β γ δ : Type} {rel : Rl α β} {rel2 : Rl γ δ} {FF : List (Addr × HO)} {σ : L2.St} {W : Vw} {μ : List Addr} {H : Hp} {st : Sto} {env : En}
/-- one step at a point, then the rest -/
theorem pt_bnd {mm : M α} {f : α → M γ} {Q : δ → Hp → Prop} (h : Pt K mg WE rel2 FF σ W μ (bnd mm f st) Q) :
    Pt K mg WE rel FF σ W μ (mm st) (fun b H1 => ∃ a st' W' μ', SA K mg FF H1 W' μ' st' ∧ Ex2 W μ W' μ' ∧ rel W' μ' a b ∧ Pt K mg WE rel2 FF σ W' μ' (f a st') Q) := by
  unfold bnd at h
  cases e : mm st with
  | ok a st1 =>
    rw [e] at h
    exact fun b H1 W1 μ1 S1 x r => ⟨a, st1, W1, μ1, S1, x, r, Pt.mono x h⟩
  | exc y st1 =>
    rw [e] at h
    exact h
  | no =>
    rw [e] at h
    exact h
theorem rd_ret {g : En → α} {Q : β → Hp → Prop} (h : rd K mg WE rel (fun e => ret (g e)) σ H Q) : ∃ FF env st W μ, SA K mg FF H W μ st ∧ RE K mg W μ σ env ∧ ∀ v, rel W μ (g env) v → Q v H := by
  obtain ⟨FF, env, st, W, μ, S, E, p⟩ := h
  exact ⟨FF, env, st, W, μ, S, E, fun v r => p v H W μ S (Ex2.refl _ _) r⟩
theorem rd_at {ev : En → M α} {Q : β → Hp → Prop} (S : SA K mg FF H W μ st) (E : RE K mg W μ σ env) (p : Pt K mg WE rel FF σ W μ (ev env st) Q) : rd K mg WE rel ev σ H Q := ⟨FF, env, st, W, μ, S, E, p⟩
theorem pt_ret {a : α} {Q : β → Hp → Prop} (S : SA K mg FF H W μ st) (p : Pt K mg WE rel FF σ W μ (ret a st) Q) {b : β} (r : rel W μ a b) : Q b H := p b H W μ S (Ex2.refl _ _) r
/-- a bool's answer as a value -/
theorem pt_bl {mm : M Bool} {Q : VK} (h : Pt K mg WE (relA K mg) FF σ W μ (bnd mm (fun r => ret (.bl r)) st) Q) : Pt K mg WE relB FF σ W μ (mm st) (fun b => Q (.bl b)) := by
  refine (pt_bnd (rel := relB) h).imp ?_
  rintro b H1 ⟨a, st', W', μ', S, x, rfl, p⟩
  exact pt_ret S p rfl
/-- a bool that is looked at as a bool -/
theorem rd_blM {ev : En → M D} {f : En → Bool → M γ} {Q : δ → Hp → Prop} (h : rd K mg WE rel2 (fun e => bnd (blM (ev e)) (f e)) σ H Q) :
    rd K mg WE (relA K mg) ev σ H (fun x H1 => ∃ c, x = .bl c ∧ ∃ FF env st W μ, SA K mg FF H1 W μ st ∧ RE K mg W μ σ env ∧ Pt K mg WE rel2 FF σ W μ (f env c st) Q) := by
  have h' : rd K mg WE rel2 (fun e => bnd (ev e) fun d => bnd (match d with
    | .bl b => ret b
    | _ => no) (f e)) σ H Q := by
    obtain ⟨FF, env, st, W, μ, S, E, p⟩ := h
    refine ⟨FF, env, st, W, μ, S, E, ?_⟩
    dsimp only at p ⊢
    unfold blM at p
    rw [bnd_bnd] at p
    exact p
  refine (rd_bnd (m := ev) (f := fun e d => bnd (match d with
    | .bl b => ret b
    | _ => no) (f e)) h').imp ?_
  rintro x H1 ⟨FF, env, st, d, W, μ, S, E, r, p⟩
  cases d <;> first | exact False.elim p | skip
  obtain rfl : x = .bl _ := r
  exact ⟨_, rfl, FF, env, st, W, μ, S, E, p⟩
theorem rpas_nil {vs : List V} (h : Rpas K mg W μ [] vs) : vs = [] := h
/-- argument lists -/
theorem rd_cons {C : Cx'} {e : Ev.E} {r : Es} {Q : List V → Hp → Prop} (h : rd K mg WE (relL K mg) (evEs C (.cons e r)) σ H Q) : tCons (rd K mg WE (relA K mg) (evE C e)) (rd K mg WE (relL K mg) (evEs C r)) σ H Q := by
  have h' : rd K mg WE (relL K mg) (fun en => bnd (evE C e en) fun x => bnd (evEs C r en) fun xs => ret (x :: xs)) σ H Q := h
  refine (rd_bnd2 (rel := relA K mg) (relX := relL K mg) relA_mono h').imp fun x H1 q => q.imp ?_
  rintro xs H2 ⟨FF, env, st, a, as, W, μ, S, E, r1, r2, p⟩
  exact pt_ret S p ⟨x, xs, rfl, r1, r2⟩
theorem rd_nil {C : Cx'} {Q : List V → Hp → Prop} (h : rd K mg WE (relL K mg) (evEs C .nil) σ H Q) : tNil σ H Q := by
  obtain ⟨FF, env, st, W, μ, S, E, p⟩ := h
  exact pt_ret S p rfl
theorem optB_pt {α' : Type} {o : Option α'} {f : α' → M γ} {Q : δ → Hp → Prop} (h : Pt K mg WE rel2 FF σ W μ (optB o f st) Q) : ∃ a, o = some a ∧ Pt K mg WE rel2 FF σ W μ (f a st) Q := by
  cases o with
  | none => exact False.elim h
  | some a => exact ⟨a, rfl, h⟩
/-- a slice's part by its values -/
def PV (vs : List V) (i : Option Int) : Prop := (vs = [] ∧ i = none) ∨ ∃ j, vs = [.int j] ∧ i = some j
theorem optI_pv {ds : List D} {vs : List V} {o : Option Int} (h : optI ds = some o) (r : Rpas K mg W μ ds vs) : PV vs o := by
  unfold optI at h
  split at h
  · cases h
    exact .inl ⟨r, rfl⟩
  · cases h
    obtain ⟨x, q, rfl, r1, r2⟩ := r
    obtain rfl : q = [] := r2
    obtain rfl : x = .int _ := r1
    exact .inr ⟨_, rfl, rfl⟩
  · cases h
end
section
variable {X : Cx} {te : TE} {a e : Expr} {pos : Pos}
theorem pe_notT (ha : PE X a te) : PE X (.UnaryOp .Not a pos) (fun σ H Q => te σ H fun x H1 => ∃ k, TruV X.K x H1 k ∧ Q (.bl (!k)) H1) := by
  refine ⟨fun pins s σ H Q I h => ?_⟩
  refine UnaryOp_ (thn (ha.run pins s σ H _ I h) fun v s1 ⟨x, H1, I1, r1, k, hk, q1⟩ => ?_)
  refine PyProof.Rows.not_of (thn (L2.tru_ok pins s1 σ H1 x v (fun b H => Q (.bl (!b)) H) I1 r1 ⟨k, hk, q1⟩) fun c s2 ⟨H2, I2, q2⟩ => ⟨.bl (!c), H2, I2, rfl, q2⟩)
/-- what is walked: a list or a tuple -/
def iSeq (K : PySem.W.Frag) (tl : TE) : TI := fun σ H R => tl σ H fun x H1 => ∃ a xs, x = .ref a ∧ ((SqL K H1 a xs ∧ R (Itl K a) H1) ∨ (SqT K H1 a xs ∧ R (Itt K a) H1))
theorem pi_seq {tg l : Expr} {tl : TE} (hl : PE X l tl) : PI X tg l (iSeq X.K tl) := by
  refine ⟨fun pins s σ H R I h => ?_⟩
  refine thn (hl.run pins s σ H _ I h) fun v s1 ⟨x, H1, I1, r1, q1⟩ => ?_
  obtain ⟨a, xs, rfl, q1⟩ := q1
  cases r1
  have fin : ∀ b ∈ [s1.heap.objs.size], FpOk X pins H1 b := fun b hb => by
    have e : b = s1.heap.objs.size := by simpa using hb
    rw [e]
    exact I1.fpOk (Nat.le_refl _) (I1.hok.fresh (Nat.le_refl _))
  rcases q1 with ⟨hq, q⟩ | ⟨hq, q⟩
  · obtain ⟨its, rv, p, hz⟩ := I1.list hq
    refine wpAny_pyIter_list p.isList ?_
    exact ⟨s1.heap.objs.size, [s1.heap.objs.size], _, _, H1, rfl, I1.kept (t' := s1.toks) fun b o e => Heap.get?_push_of_some _ e, turn_list a _, ⟨_, Heap.get?_push_size _ rfl, rfl, rfl⟩, fin, q⟩
  · obtain ⟨its, rv, p, hz⟩ := I1.tuple hq
    refine wpAny_pyIter_tuple (show s1.heap.IsTuple a its.toArray from p) ?_
    exact ⟨s1.heap.objs.size, [s1.heap.objs.size], _, _, H1, rfl, I1.kept (t' := s1.toks) fun b o e => Heap.get?_push_of_some _ e, turn_tuple a _, ⟨_, Heap.get?_push_size _ rfl, rfl, rfl⟩, fin, q⟩
theorem _root_.L2.PI.imp {X : Cx} {tg e : Expr} {t t' : TI} (p : PI X tg e t) (h : ∀ σ H Q, t' σ H Q → t σ H Q) : PI X tg e t' := ⟨fun pins s σ H Q I q => p.run pins s σ H Q I (h _ _ _ q)⟩
theorem _root_.L2.PTs.imp {X : Cx} {e : List Expr} {t t' : TT} (p : PTs X e t) (h : ∀ σ H Q, t' σ H Q → t σ H Q) : PTs X e t' := ⟨fun pins s σ H Q I q => p.run pins s σ H Q I (h _ _ _ q)⟩
theorem _root_.L2.PS.imp {X : Cx} {e : Stmt} {t t' : TS} (p : PS X e t) (h : ∀ D σ H, t' D σ H → t D σ H) : PS X e t' := ⟨fun pins s σ H D I q => p.run pins s σ H D I (h _ _ _ q)⟩
theorem _root_.L2.PSs.imp {X : Cx} {e : List Stmt} {t t' : TS} (p : PSs X e t) (h : ∀ D σ H, t' D σ H → t D σ H) : PSs X e t' := ⟨fun pins s σ H D I q => p.run pins s σ H D I (h _ _ _ q)⟩
/-- a reading that is never reached -/
theorem pe_void {t : TE} (h : ∀ σ H Q, ¬ t σ H Q) : PE X e t := ⟨fun _ _ σ H Q _ q => (h σ H Q q).elim⟩
end
/-! ### dict displays -/
section
variable (K : PySem.W.Frag) (mg : Str → Option Value) (WE : WX) (C : Cx')
def trsOf : List Ky → Es → List (TE × TE)
  | k :: ks, .cons e r => (tC (kV k), rd K mg WE (relA K mg) (evE C e)) :: trsOf ks r
  | _, _ => []
def lenEs : Es → Nat
  | .nil => 0
  | .cons _ r => lenEs r + 1
end
section
variable {K : PySem.W.Frag} {mg : Str → Option Value} {WE : WX} {C : Cx'}
theorem tPairs_of {σ : L2.St} : ∀ {ks : List Ky} {es : Es} {H : Hp} {Q : List (V × V) → Hp → Prop}, ks.length = lenEs es → rd K mg WE (relL K mg) (evEs C es) σ H (fun xs H2 => Q ((ks.zip xs).map fun kv => (kV kv.1, kv.2)) H2) →
    tPairs (trsOf K mg WE C ks es) σ H Q
  | [], .nil, H, Q, l, h => rd_nil h
  | [], .cons _ _, _, _, l, _ => by simp [lenEs] at l
  | _ :: _, .nil, _, _, l, _ => by simp [lenEs] at l
  | k :: ks, .cons e r, H, Q, l, h => rd.imp (rd_cons h) fun x H1 q => tPairs_of (ks := ks) (Q := fun ps H3 => Q ((kV k, x) :: ps) H3) (by simpa [lenEs] using l) q
theorem mergeK_nodup : ∀ {more acc : List (Key × V)}, (acc.map (·.1) ++ more.map (·.1)).Nodup → mergeK acc more = acc ++ more
  | [], acc, _ => by simp [mergeK]
  | p :: r, acc, n => by
    have hp : (acc.any fun kv => decide (kv.1 = p.1)) = false := by
      rw [List.any_eq_false]
      intro q hq
      simp only [decide_eq_true_eq]
      intro e
      have := List.nodup_append.mp n
      exact this.2.2 q.1 (List.mem_map_of_mem hq) p.1 (by simp) e
    have e : L2.putK acc p.1 p.2 = acc ++ [p] := by
      unfold L2.putK
      rw [hp]
      rfl
    show mergeK (L2.putK acc p.1 p.2) r = _
    rw [e, mergeK_nodup (by simpa using n)]
    simp
end
end Ev
end
section
set_option Elab.async false
set_option linter.all false
set_option maxRecDepth 100000
set_option maxHeartbeats 1000003
namespace Ev
open PySem PySem.Spec PyProof.Rows L2
variable [Gh]
section
variable {C : Cx'} {m : MC} {X : Cx} {WE : WX} {k : Nat}
abbrev RdE (C : Cx') (X : Cx) (WE : WX) (c : Ev.E) : TE := rd X.K X.mg WE (relA X.K X.mg) (evE C c)
abbrev RdA (C : Cx') (X : Cx) (WE : WX) (c : Es) : TA := rd X.K X.mg WE (relL X.K X.mg) (evEs C c)
abbrev RdT (C : Cx') (X : Cx) (WE : WX) (c : T) : TT := rd X.K X.mg WE relB (evT C c)
theorem bfN_boot {b : Bf} (h : b ≠ .gcd) : bootBuiltins (bfN b) = some (bfV b) := by
  cases b <;> first | exact absurd rfl h | (simp only [bfN, bfV]; decide +kernel)
theorem bmN_boot {b : Bm} : bootBuiltins (bmN b) = some (bmV b) := by
  cases b <;> (simp only [bmN, bmV]; decide +kernel)
theorem bfN_in {b : Bf} (h : b ≠ .gcd) : bfN b ∈ bNs := by
  cases b <;> first | exact absurd rfl h | (simp only [bfN]; decide)
theorem bmN_in {b : Bm} : bmN b ∈ bNs := by
  cases b <;> (simp only [bmN]; decide)
theorem kd_ok (c : CtxOk C m X WE k) {kd : Kd} {a : Expr} (h : kdB m kd a = true) : ∃ v u, KdV X.mg kd v u ∧ PE X a (tC v) ∧ RelV v u := by
  cases a with
  | Name x pos =>
    cases kd with
    | ty n =>
      simp only [kdB, Bool.and_eq_true] at h
      have hn := of_decide_eq_true h.1
      obtain ⟨e, hg, hd, hnn⟩ := c.gl h.2
      subst e
      have hb : bootBuiltins (Str.ofString n) = some (.type n) := by
        simp only [tyNs, List.mem_cons, List.not_mem_nil, or_false] at hn
        rcases hn with rfl | rfl | rfl | rfl | rfl | rfl <;> decide +kernel
      have hi : Str.ofString n ∈ bNs := by
        simp only [tyNs, List.mem_cons, List.not_mem_nil, or_false] at hn
        rcases hn with rfl | rfl | rfl | rfl | rfl | rfl <;> decide
      exact ⟨.ty n, .type n, ⟨hn, rfl, rfl⟩, pe_bltn hg (c.bn _ hi) hb rfl hnn hd, rfl⟩
    | own t =>
      simp only [kdB, Bool.and_eq_true] at h
      obtain ⟨e, hg, hd, hnn⟩ := c.gl h.1
      subst e
      obtain ⟨T, hT⟩ := c.cns t (by simpa using h.2)
      exact ⟨.ref T, .ref T, ⟨T, hT, rfl, rfl⟩, pe_glob hg hT rfl hd, rfl⟩
  | _ => cases kd <;> simp [kdB] at h
/-- the classes of a tuple, from the left -/
def tCs : List V → TA
  | [] => tNil
  | v :: vs => tCons (tC v) (tCs vs)
theorem kds_ok (c : CtxOk C m X WE k) : ∀ {ks : List Kd} {as : List Expr}, kdsB m ks as = true → ∃ vs us, KdVs X.mg ks vs us ∧ PA X as (tCs vs) ∧ Vals vs us
  | [], [], _ => ⟨[], [], .nil, pa_nil, .nil⟩
  | [], _ :: _, h => by simp [kdsB] at h
  | _ :: _, [], h => by simp [kdsB] at h
  | kd :: ks, a :: as, h => by
    simp only [kdsB, Bool.and_eq_true] at h
    obtain ⟨v, u, h1, h2, h3⟩ := kd_ok c h.1
    obtain ⟨vs, us, g1, g2, g3⟩ := kds_ok c h.2
    refine ⟨v :: vs, u :: us, .cons h1 g1, pa_cons h2 g2 (nst_each ?_ _ _), .cons h3 g3⟩
    have := h.1
    cases a <;> first | rfl | (cases kd <;> simp [kdB] at this)
theorem tCs_run {σ : L2.St} : ∀ {vs : List V} {H : Hp} {Q : List V → Hp → Prop}, Q vs H → tCs vs σ H Q
  | [], _, _, q => q
  | v :: vs, H, Q, q => tCs_run (vs := vs) (Q := fun xs H2 => Q (v :: xs) H2) q
theorem key_pe {ky : Ky} {o : Option Expr} (h : keyB ky o = true) : ∃ e, o = some e ∧ PE X e (tC (kV ky)) := by
  cases o with
  | none => cases ky <;> simp [keyB] at h
  | some e =>
    refine ⟨e, rfl, ?_⟩
    cases e <;> first | (cases ky <;> simp [keyB] at h; done) | skip
    rename_i v kk pos
    cases v <;> cases ky <;> first | (simp [keyB] at h; done) | skip
    · rw [show _ = _ from of_decide_eq_true h]
      exact pe_int
    · rw [show _ = _ from of_decide_eq_true h]
      exact pe_str
theorem mtEs_len : ∀ {es : Es} {as : List Expr}, mtEs m es as = true → lenEs es = as.length
  | .nil, [], _ => rfl
  | .nil, _ :: _, h => by simp [mtEs] at h
  | .cons _ _, [], h => by simp [mtEs] at h
  | .cons e r, a :: as, h => by
    simp only [mtEs, Bool.and_eq_true] at h
    rw [lenEs, mtEs_len h.2, List.length_cons]
theorem keys_all : ∀ {ks : List Ky} {as : List (Option Expr)}, keysB ks as = true → as.all (·.isSome) = true ∧ ks.length = as.length
  | [], [], _ => ⟨rfl, rfl⟩
  | [], _ :: _, h => by simp [keysB] at h
  | _ :: _, [], h => by simp [keysB] at h
  | k :: ks, a :: as, h => by
    simp only [keysB, Bool.and_eq_true] at h
    obtain ⟨h1, h2⟩ := keys_all h.2
    have : a.isSome = true := by
      cases a with
      | none => have := h.1; cases k <;> simp [keyB] at this
      | some _ => rfl
    exact ⟨by rw [List.all_cons, this, h1]; rfl, by simp [h2]⟩
theorem lens100k {n : Nat} (h : decide (n ≤ 100000) = true) : n ≤ sizeLine := Nat.le_trans (of_decide_eq_true h) (Nat.le_trans (by decide) line1m)
theorem evEs_len : ∀ {es : Es} {e : En} {st st' : Sto} {ds : List D}, evEs C es e st = .ok ds st' → ds.length = lenEs es
  | .nil, e, st, st', ds, h => by
    cases h
    rfl
  | .cons a r, e, st, st', ds, h => by
    obtain ⟨x, s1, h1, h2⟩ := bnd_inv (f := fun x => bnd (evEs C r e) fun xs => ret (x :: xs)) h
    obtain ⟨xs, s2, h3, h4⟩ := bnd_inv h2
    cases h4
    rw [List.length_cons, evEs_len h3]
    rfl
theorem rd_len {es : Es} {σ : L2.St} {H : Hp} {Q : List V → Hp → Prop} (h : RdA C X WE es σ H Q) : RdA C X WE es σ H (fun vs H1 => vs.length = lenEs es ∧ Q vs H1) := by
  obtain ⟨FF, env, st, W, μ, S, E, p⟩ := h
  refine ⟨FF, env, st, W, μ, S, E, ?_⟩
  cases e : evEs C es env st with
  | ok ds st' =>
    rw [e] at p
    exact fun v H' W' μ' S' x r => ⟨by rw [← r.length, evEs_len e], p v H' W' μ' S' x r⟩
  | exc y st' =>
    rw [e] at p
    exact p
  | no =>
    rw [e] at p
    exact p
theorem frzs_ok {K : PySem.W.Frag} {mg : Str → Option Value} {FF : List (Addr × HO)} {H : Hp} {μ : List Addr} : ∀ {ds ds' : List D} {xs : List V} {W : Vw} {st st' : Sto}, SA K mg FF H W μ st → Rpas K mg W μ ds xs → frzDs ds st = .ok ds' st' →
    ∃ W', SA K mg FF H W' μ st' ∧ Ex2 W μ W' μ ∧ Rps K mg W' ds' xs
  | [], ds', _, W, st, st', S, r, h => by
    obtain rfl : _ = [] := r
    cases h
    exact ⟨W, S, Ex2.refl _ _, Rps.nil⟩
  | d :: ds, ds', _, W, st, st', S, r, h => by
    obtain ⟨x, q, rfl, r1, r2⟩ := r
    obtain ⟨d', s1, h1, h2⟩ := bnd_inv (f := fun x => bnd (frzDs ds) fun xs => ret (x :: xs)) h
    obtain ⟨ds2, s2, h3, h4⟩ := bnd_inv h2
    cases h4
    obtain ⟨W1, S1, x1, rr1⟩ := frz_ok S r1 h1
    obtain ⟨W2, S2, x2, rr2⟩ := frzs_ok S1 (r2.mono x1) h3
    exact ⟨W2, S2, x1.trans x2, Rps.cons (rr1.mono x2.w) rr2⟩
theorem frzs_ex : ∀ {ds : List D} {st st' : Sto} {x : Ex}, frzDs ds st = .exc x st' → False
  | [], _, _, _, h => by cases h
  | d :: ds, st, st', x, h => by
    have h' : bnd (frzD d) (fun x => bnd (frzDs ds) fun xs => ret (x :: xs)) st = .exc x st' := h
    unfold bnd at h'
    cases e : frzD d st with
    | ok a s1 =>
      rw [e] at h'
      simp only at h'
      cases e2 : frzDs ds s1 with
      | ok b s2 => rw [e2] at h'; cases h'
      | exc y s2 => exact frzs_ex e2
      | no => rw [e2] at h'; cases h'
    | exc y s1 => exact frz_ex e
    | no => rw [e] at h'; cases h'
theorem frzs_inv {α β : Type} {K : PySem.W.Frag} {mg : Str → Option Value} {rel : Rl α β} {FF : List (Addr × HO)} {W : Vw} {μ : List Addr} {τ : L2.St} {Q : β → Hp → Prop} {ds : List D} {st : Sto} {f : List D → M α} (h : Pt K mg WE rel FF τ W μ (bnd (frzDs ds) f st) Q) :
    ∃ ds' st', frzDs ds st = .ok ds' st' ∧ Pt K mg WE rel FF τ W μ (f ds' st') Q := by
  unfold bnd at h
  cases e : frzDs ds st with
  | ok a s1 =>
    rw [e] at h
    exact ⟨a, s1, rfl, h⟩
  | exc y s1 => exact (frzs_ex e).elim
  | no =>
    rw [e] at h
    exact False.elim h

/-! ### each form -/
theorem s_c (c : CtxOk C m X WE k) {kc : Cst} {v : Const} {kk : Nat} {pos : Pos} (h : cstB kc v = true) : PE X (.Constant v kk pos) (RdE C X WE (.c kc)) := by
  have fin : ∀ {v : V} (_ : ∀ W μ, Rpa X.K X.mg W μ kc.d v) σ H Q, RdE C X WE (.c kc) σ H Q → tC v σ H Q := fun {v} r σ H Q q => by
    obtain ⟨FF, env, st, W, μ, S, E, p⟩ := rd_ret (g := fun _ => kc.d) q
    exact p v (r W μ)
  cases kc <;> cases v <;> first | (simp [cstB] at h; done) | skip
  · exact pe_non.imp (fin fun W μ => rfl)
  · simp only [cstB, beq_iff_eq] at h
    subst h
    exact pe_bl.imp (fin fun W μ => rfl)
  · have h := of_decide_eq_true h
    subst h
    exact pe_int.imp (fin fun W μ => rfl)
  · have h := of_decide_eq_true h
    subst h
    exact pe_str.imp (fin fun W μ => rfl)
theorem s_v (c : CtxOk C m X WE k) {i : Nat} {x : Str} {pos : Pos} (h : varB m i x = true) : PE X (.Name x pos) (RdE C X WE (.v i)) := by
  obtain ⟨h1, h2, h3, h4⟩ := c.var h
  refine (pe_var h1 h2 h3 h4).imp ?_
  rintro σ H Q ⟨FF, env, st, W, μ, S, E, p⟩
  have p' : Pt X.K X.mg WE (relA X.K X.mg) FF σ W μ ((match env[i]? with
    | some (some d) => ret d
    | _ => no) st) Q := p
  cases e : env[i]? with
  | none => rw [e] at p'; exact False.elim p'
  | some o =>
    rw [e] at p'
    cases o with
    | none => exact False.elim p'
    | some d =>
      obtain ⟨v, ev, rv⟩ := E.at_ i d e
      exact ⟨v, ev, pt_ret S p' rv⟩
theorem s_g (c : CtxOk C m X WE k) {x y : Str} {pos : Pos} (h : gloB m x y = true) : PE X (.Name y pos) (RdE C X WE (.g x)) := by
  obtain ⟨e, hg, hd, hn⟩ := c.gl h
  subst e
  cases ec : C.con x with
  | none =>
    refine pe_void ?_
    rintro σ H Q ⟨FF, env, st, W, μ, S, E, p⟩
    have p' : Pt X.K X.mg WE (relA X.K X.mg) FF σ W μ (opt (C.con x) st) Q := p
    rw [ec] at p'
    exact p'
  | some d =>
    obtain ⟨v, u, e1, e2, e3⟩ := c.con x d ec
    refine (pe_glob hg e1 e2 hd).imp ?_
    rintro σ H Q ⟨FF, env, st, W, μ, S, E, p⟩
    have p' : Pt X.K X.mg WE (relA X.K X.mg) FF σ W μ (opt (C.con x) st) Q := p
    rw [ec] at p'
    exact pt_ret S p' (e3 W μ)
theorem s_tup (c : CtxOk C m X WE k) {es : Es} {xs : List Expr} {kk : Nat} {pos : Pos} (h : mtEs m es xs = true) (h2 : decide (xs.length ≤ 100000) = true) (ih : PA X xs (RdA C X WE es)) : PE X (.Tuple xs kk pos) (RdE C X WE (.tup es)) := by
  refine (pe_tup ih).imp ?_
  intro σ H Q q
  refine (rd_len (rd_bnd (m := evEs C es) (rel2 := relA X.K X.mg) (f := fun _ xs => bnd (frzDs xs) fun xs => ret (D.tup xs)) q)).imp ?_
  rintro vs H1 ⟨hl, FF, env, st, ds, W, μ, S, E, r, p⟩
  refine ⟨by rw [hl, mtEs_len h]; exact lens100k h2, fun p' hp' => ?_⟩
  obtain ⟨ds', st', W', S', x', r', p⟩ := frzs_pt S r p
  have le := LeW.put (o := .tup vs) (S'.gnone hp')
  refine p _ _ _ _ (S'.put hp') ⟨le, [], by simp⟩ (Rp.a ?_)
  simp only [Rp]
  exact ⟨_, vs, rfl, SqT.of upd_same, r'.mono le⟩
theorem s_lst (c : CtxOk C m X WE k) {mm : Bool} {es : Es} {xs : List Expr} {pos : Pos} (h : mtEs m es xs = true) (h2 : decide (xs.length ≤ 100000) = true) (ih : PA X xs (RdA C X WE es)) : PE X (.List xs pos) (RdE C X WE (.lst mm es)) := by
  refine (pe_lst ih).imp ?_
  intro σ H Q q
  refine (rd_len (rd_bnd (m := evEs C es) (rel2 := relA X.K X.mg) (f := fun _ xs => bnd (frzDs xs) fun xs => alloc mm (.lst xs)) q)).imp ?_
  rintro vs H1 ⟨hl, FF, env, st, ds, W, μ, S, E, r, p⟩
  refine ⟨by rw [hl, mtEs_len h]; exact lens100k h2, fun p' hp' => ?_⟩
  obtain ⟨ds', st', W', S', x', r', p⟩ := frzs_pt S r p
  exact alloc_lst S' hp' r' p
theorem s_dct0 (c : CtxOk C m X WE k) {mm : Bool} {pos : Pos} : PE X (.Dict [] [] pos) (RdE C X WE (.dct mm [] .nil)) := by
  refine pe_dnewK.imp ?_
  rintro σ H Q ⟨FF, env, st, W, μ, S, E, p⟩ p' hp'
  exact alloc_dct (ks := []) (ds := []) (vs := []) S hp' rfl List.nodup_nil Rps.nil p
theorem s_dct (c : CtxOk C m X WE k) {mm : Bool} {ks : List Ky} {es : Es} {kx : List (Option Expr)} {vx : List Expr} {pos : Pos} (h1 : keysB ks kx = true) (h2 : mtEs m es vx = true) (h3 : kx.length = vx.length) (h4 : kx.length ≤ 15) (h0 : kx ≠ [])
    (ih : PPs X pos kx vx (trsOf X.K X.mg WE C ks es)) : PE X (.Dict kx vx pos) (RdE C X WE (.dct mm ks es)) := by
  obtain ⟨g1, g2⟩ := keys_all h1
  have hlen : ks.length = lenEs es := by rw [g2, h3, mtEs_len h2]
  refine (pe_disp ih g1 h3 h0 h4).imp ?_
  rintro σ H Q ⟨FF, env, st, W, μ, S, E, p⟩ p' hp'
  have fr := S.free hp'
  refine tPairs_of hlen ⟨(p', .dK []) :: FF, env, st, W, μ, S.push fr, E, ?_⟩
  have p2 : Pt X.K X.mg WE (relA X.K X.mg) FF σ W μ (bnd (evEs C es env) (fun xs => bnd (frzDs xs) fun xs => if decide (ks.length = xs.length) && decide ks.Nodup then alloc mm (.dct ks xs) else no) st) Q := p
  unfold bnd at p2
  cases e : evEs C es env st with
  | no =>
    rw [e] at p2
    exact False.elim p2
  | exc y s1 =>
    rw [e] at p2
    exact fun H' W' μ' cls dd S' x r => p2 H' W' μ' cls dd S'.pop x r
  | ok ds s1 =>
    rw [e] at p2
    intro vs H2 W2 μ2 S2 x2 r2
    obtain ⟨ds', s2, e2, p3⟩ := frzs_inv (f := fun xs => if decide (ks.length = xs.length) && decide ks.Nodup then alloc mm (.dct ks xs) else no) p2
    obtain ⟨W3, S3, x3, r3⟩ := frzs_ok S2 r2 e2
    refine ⟨(S2.freeT fr.f).2, ks.zip vs, rfl, ?_, ?_⟩
    · rw [List.length_zip]
      rw [g2] at hlen
      omega
    · split at p3
      · rename_i cc
        obtain ⟨c1, c2⟩ := Bool.and_eq_true_iff.mp cc
        have c1 := of_decide_eq_true c1
        have c2 := of_decide_eq_true c2
        have em : mergeK [] (ks.zip vs) = ks.zip vs := by
          have := mergeK_nodup (more := ks.zip vs) (acc := []) (by
            simp only [List.map_nil, List.nil_append]
            rw [List.map_fst_zip (by rw [c1, r3.length] <;> exact Nat.le_refl _)]
            exact c2)
          simpa using this
        rw [em]
        exact alloc_dctF (S3.ffw fr.f) fr.f c1 c2 r3 (Pt.mono (x2.trans x3) p3)
      · exact False.elim p3
theorem s_bin (c : CtxOk C m X WE k) {op : Operator} {x y : Ev.E} {a b : Expr} {pos : Pos} (ha : PE X a (RdE C X WE x)) (hb : PE X b (RdE C X WE y)) : PE X (.BinOp a op b pos) (RdE C X WE (.bin op x y)) := by
  refine (pe_op (or_bin (WE := WE)) ha hb).imp ?_
  intro σ H Q q
  refine (rd_bnd2 (rel := relA X.K X.mg) (relX := relA X.K X.mg) relA_mono (m := evE C x) (m2 := evE C y) (f := fun _ p q => binD op p q) q).imp fun u H1 q1 => q1.imp ?_
  rintro v H2 ⟨FF, env, st, d, e, W, μ, S, E, r1, r2, p⟩
  exact ⟨FF, σ, st, W, μ, d, e, S, r1, r2, p⟩
theorem s_neg (c : CtxOk C m X WE k) {x : Ev.E} {a : Expr} {pos : Pos} (ha : PE X a (RdE C X WE x)) : PE X (.UnaryOp .USub a pos) (RdE C X WE (.neg x)) := by
  refine (pe_un (un_negD (WE := WE)) ha).imp ?_
  intro σ H Q q
  refine (rd_bnd (m := evE C x) (rel2 := relA X.K X.mg) (f := fun _ d => match d with
    | .int i => ret (.int (-i))
    | _ => no) q).imp ?_
  rintro v H2 ⟨FF, env, st, d, W, μ, S, E, r1, p⟩
  exact ⟨FF, σ, st, W, μ, d, S, r1, p⟩
theorem s_cmp (c : CtxOk C m X WE k) {op : CmpOp} {x y : Ev.E} {a b : Expr} {pos : Pos} (hn : nset b = true) (ha : PE X a (RdE C X WE x)) (hb : PE X b (RdE C X WE y)) : PE X (.Compare a [op] [b] pos) (RdE C X WE (.cmp op x y)) := by
  refine (pe_cmpR (or_cmp (WE := WE) (by have := c.hu; omega)) ha hb (nset_in hn)).imp ?_
  intro σ H Q q
  refine (rd_bnd2 (rel := relA X.K X.mg) (relX := relA X.K X.mg) relA_mono (m := evE C x) (m2 := evE C y) (f := fun _ p q => bnd (cmpD op p q) fun r => ret (D.bl r)) q).imp fun u H1 q1 => q1.imp ?_
  rintro v H2 ⟨FF, env, st, d, e, W, μ, S, E, r1, r2, p⟩
  exact ⟨FF, σ, st, W, μ, d, e, S, r1, r2, pt_bl p⟩
theorem s_notv (c : CtxOk C m X WE k) {x : Ev.E} {a : Expr} {pos : Pos} (ha : PE X a (RdE C X WE x)) : PE X (.UnaryOp .Not a pos) (RdE C X WE (.notv x)) := by
  refine (pe_notT ha).imp ?_
  intro σ H Q q
  refine (rd_bnd (m := evE C x) (rel2 := relA X.K X.mg) (f := fun _ d s => match truD d s with
    | some r => .ok (.bl (!r)) s
    | none => .no) q).imp ?_
  rintro v H2 ⟨FF, env, st, d, W, μ, S, E, r1, p⟩
  cases e : truD d st with
  | none => rw [e] at p; exact False.elim p
  | some r =>
    rw [e] at p
    exact tru_v ⟨FF, st, W, μ, d, r, S, r1, e, pt_ret (a := D.bl (!r)) S p rfl⟩
theorem s_ix (c : CtxOk C m X WE k) {x y : Ev.E} {a b : Expr} {pos : Pos} (hn : nsl b = true) (ha : PE X a (RdE C X WE x)) (hb : PE X b (RdE C X WE y)) : PE X (.Subscript a b pos) (RdE C X WE (.ix x y)) := by
  refine (pe_ix (ix_get (WE := WE) (by have := c.hu; omega)) ha hb (nsl_ix hn)).imp ?_
  intro σ H Q q
  refine (rd_bnd2 (rel := relA X.K X.mg) (relX := relA X.K X.mg) relA_mono (m := evE C x) (m2 := evE C y) (f := fun _ p q => Ev.getD p q) q).imp fun u H1 q1 => q1.imp ?_
  rintro v H2 ⟨FF, env, st, d, e, W, μ, S, E, r1, r2, p⟩
  exact ⟨FF, σ, st, W, μ, d, e, S, r1, r2, p⟩
theorem s_fld (c : CtxOk C m X WE k) {x : Ev.E} {f : Str} {a : Expr} {pos : Pos} (hn : nsup a = true) (ha : PE X a (RdE C X WE x)) : PE X (.Attribute a f pos) (RdE C X WE (.fld x f)) := by
  refine (pe_fld ha (nsup_base hn f X.env _)).imp ?_
  intro σ H Q q
  refine (rd_bnd (m := evE C x) (rel2 := relA X.K X.mg) (f := fun _ d => fldD d f) q).imp ?_
  rintro v H2 ⟨FF, env, st, d, W, μ, S, E, r1, p⟩
  unfold fldD at p
  cases d <;> first | exact False.elim p | skip
  rename_i cn fs xs
  dsimp only at p
  have r1' : Rp X.K X.mg W (.obj cn fs xs) v := r1
  simp only [Rp] at r1'
  obtain ⟨t, K', dx, vs, rfl, e1, e2, e3, e4, e5⟩ := r1'
  cases el : lkF fs xs f with
  | none => rw [el] at p; exact False.elim p
  | some d' =>
    rw [el] at p
    have key : ∀ {fs : List Str} {xs : List D} {vs : List V} {d' : D}, fs.length = xs.length → Rps X.K X.mg W xs vs → lkF fs xs f = some d' → f ∈ fs ∧ ∃ v, (fs.zip vs).lookup f = some v ∧ Rp X.K X.mg W d' v := by
      intro fs
      induction fs with
      | nil => intro xs vs d' l r e; cases xs <;> simp [lkF] at e
      | cons g gs ih =>
        intro xs vs d' l r e
        cases xs with
        | nil => simp at l
        | cons z zs =>
          simp only [Rps] at r
          obtain ⟨w, ws, rfl, q1, q2⟩ := r
          unfold lkF at e
          by_cases hg : g = f
          · rw [if_pos hg] at e
            cases e
            subst hg
            exact ⟨List.mem_cons_self .., w, by rw [List.zip_cons_cons, List.lookup_cons_self], q1⟩
          · rw [if_neg hg] at e
            obtain ⟨i1, w', i2, i3⟩ := ih (by simpa using l) q2 e
            refine ⟨List.mem_cons_of_mem _ i1, w', ?_, i3⟩
            rw [List.zip_cons_cons, List.lookup_cons]
            have : (f == g) = false := beq_eq_false_iff_ne.mpr (fun e => hg e.symm)
            rw [this]
            exact i2
    obtain ⟨k1, w, k2, k3⟩ := key e4 e5 el
    exact ⟨t, K', dx, _, w, rfl, S.sub _ _ e3, e2.cl, e2.na f k1, k2, pt_ret S p k3.a⟩
end
end Ev
end
section
set_option Elab.async false
set_option linter.all false
set_option maxRecDepth 100000
set_option maxHeartbeats 1000003
namespace Ev
open PySem PySem.Spec PyProof.Rows L2
variable [Gh]
section
variable {C : Cx'} {m : MC} {X : Cx} {WE : WX} {k : Nat}
theorem CtxOk.hu65 (c : CtxOk C m X WE k) : X.A.units + 65 < cLine := by have := c.hu; omega
theorem pt_cmpB {op : CmpOp} {a b : D} {K : PySem.W.Frag} {mg : Str → Option Value} {α β : Type} {rel : Rl α β} {FF : List (Addr × HO)} {W : Vw} {μ : List Addr} {σ : L2.St} {st : Sto} {f : Bool → M α} {Q : β → Hp → Prop} (h : Pt K mg WE rel FF σ W μ (bnd (cmpD op a b) f st) Q) :
    ∃ r, cmpD op a b st = .ok r st ∧ Pt K mg WE rel FF σ W μ (f r st) Q := by
  cases e : cmpO op (thD a st) (thD b st) with
  | none =>
    have e2 : cmpD op a b st = .no := by
      unfold cmpD opB
      rw [e]
    unfold bnd at h
    rw [e2] at h
    exact False.elim h
  | some r =>
    have e2 : cmpD op a b st = .ok r st := by
      unfold cmpD opB
      rw [e]
    unfold bnd at h
    rw [e2] at h
    exact ⟨r, e2, h⟩
theorem s_chainCore {α : Type} {g : Bool → α} {β : Type} {rel : Rl α β} {gb : Bool → β} (hg : ∀ b W μ, rel W μ (g b) (gb b)) {op op' : CmpOp} {x y z : Ev.E} {σ : L2.St} {H : Hp} {Q : β → Hp → Prop} {QV : VK} (hQ : ∀ b H, Q (gb b) H → QV (.bl b) H)
    (q : rd X.K X.mg WE rel (fun e => bnd (evE C x e) fun p => bnd (evE C y e) fun q => bnd (cmpD op p q) fun r => (match r with
      | false => ret (g false)
      | true => bnd (evE C z e) fun w => bnd (cmpD op' q w) fun r => ret (g r))) σ H Q) :
    tChain (rC X.K X.mg WE (cmpD op)) (rC X.K X.mg WE (cmpD op')) (RdE C X WE x) (RdE C X WE y) (RdE C X WE z) σ H QV := by
  refine (rd_bnd2 (rel := relA X.K X.mg) (relX := relA X.K X.mg) relA_mono (m := evE C x) (m2 := evE C y) (f := fun e p q => bnd (cmpD op p q) fun r => (match r with
      | false => ret (g false)
      | true => bnd (evE C z e) fun w => bnd (cmpD op' q w) fun r => ret (g r))) q).imp fun u H1 q1 => q1.imp ?_
  rintro v H2 ⟨FF, env, st, d, e, W, μ, S, E, r1, r2, p⟩
  obtain ⟨r, ec, p⟩ := pt_cmpB p
  refine ⟨FF, σ, st, W, μ, d, e, S, r1, r2, ?_⟩
  rw [ec]
  rintro b H3 W3 μ3 S3 x3 rfl
  refine ⟨_, rfl, ?_⟩
  cases r with
  | false =>
    simp only [Bool.false_eq_true, if_false]
    exact hQ _ _ (pt_ret S3 (Pt.mono x3 p) (hg _ _ _))
  | true =>
    simp only [if_true]
    refine rd_at (env := env) S3 (E.mono x3) ((pt_bnd (rel := relA X.K X.mg) (Pt.mono x3 p)).imp ?_)
    rintro w H4 ⟨d3, st4, W4, μ4, S4, x4, r3, p⟩
    refine ⟨FF, σ, st4, W4, μ4, e, d3, S4, (r2.mono x3).mono x4, r3, ?_⟩
    refine (pt_bnd (rel := relB) p).imp ?_
    rintro b H5 ⟨a, st5, W5, μ5, S5, x5, rfl, p⟩
    exact hQ _ _ (pt_ret S5 p (hg _ _ _))
theorem s_chain (c : CtxOk C m X WE k) {op op' : CmpOp} {x y z : Ev.E} {a b d : Expr} {pos : Pos} (hn : nset d = true) (ha : PE X a (RdE C X WE x)) (hb : PE X b (RdE C X WE y)) (hd : PE X d (RdE C X WE z)) : PE X (.Compare a [op, op'] [b, d] pos) (RdE C X WE (.chain op op' x y z)) :=
  (pe_chain (or_cmp (WE := WE) c.hu65) (or_cmp (WE := WE) c.hu65) ha hb hd (nset_last hn)).imp fun σ H Q q => s_chainCore (g := D.bl) (rel := relA X.K X.mg) (gb := V.bl) (fun _ _ _ => rfl) (fun _ _ h => h) q
theorem t_chain (c : CtxOk C m X WE k) {op op' : CmpOp} {x y z : Ev.E} {a b d : Expr} {pos : Pos} (hn : nset d = true) (ha : PE X a (RdE C X WE x)) (hb : PE X b (RdE C X WE y)) (hd : PE X d (RdE C X WE z)) : PT X (.Compare a [op, op'] [b, d] pos) (RdT C X WE (.chain op op' x y z)) := by
  refine (pt_chain (or_cmp (WE := WE) c.hu65) (or_cmp (WE := WE) c.hu65) ha hb hd (nset_last hn)).imp ?_
  intro σ H Q q
  refine s_chainCore (C := C) (g := fun b => b) (rel := relB) (gb := fun b => b) (fun _ _ _ => rfl) (Q := Q) (fun b H h => ⟨b, rfl, h⟩) ?_
  obtain ⟨FF, env, st, W, μ, S, E, p⟩ := q
  refine ⟨FF, env, st, W, μ, S, E, ?_⟩
  have e : evT C (.chain op op' x y z) env = (bnd (evE C x env) fun p => bnd (evE C y env) fun q => bnd (cmpD op p q) fun r => (match r with
      | false => ret false
      | true => bnd (evE C z env) fun w => bnd (cmpD op' q w) fun r => ret r)) := by
    simp only [evT]
    congr 1
    funext p
    congr 1
    funext q
    congr 1
    funext r
    cases r
    · rfl
    · show bnd (evE C z env) _ = bnd (evE C z env) _
      congr 1
      funext w
      funext s
      unfold bnd
      cases cmpD op' q w s <;> rfl
  rw [e] at p
  exact p
theorem t_cmp (c : CtxOk C m X WE k) {op : CmpOp} {x y : Ev.E} {a b : Expr} {pos : Pos} (hn : nset b = true) (ha : PE X a (RdE C X WE x)) (hb : PE X b (RdE C X WE y)) : PT X (.Compare a [op] [b] pos) (RdT C X WE (.cmp op x y)) := by
  refine (pt_cmpR (or_cmp (WE := WE) c.hu65) ha hb (nset_in hn)).imp ?_
  intro σ H Q q
  refine (rd_bnd2 (rel := relA X.K X.mg) (relX := relA X.K X.mg) relA_mono (m := evE C x) (m2 := evE C y) (rel2 := relB) (f := fun _ p q => cmpD op p q) q).imp fun u H1 q1 => q1.imp ?_
  rintro v H2 ⟨FF, env, st, d, e, W, μ, S, E, r1, r2, p⟩
  exact ⟨FF, σ, st, W, μ, d, e, S, r1, r2, p.imp fun b H q => ⟨b, rfl, q⟩⟩
theorem t_val (c : CtxOk C m X WE k) {x : Ev.E} {a : Expr} (hn : nbt a = true) (ha : PE X a (RdE C X WE x)) : PT X a (RdT C X WE (.val x)) := by
  refine (pt_truth ha (nbt_true hn X.env)).imp ?_
  intro σ H Q q
  refine (rd_bnd (m := evE C x) (rel2 := relB) (f := fun _ d s => match truD d s with
    | some r => .ok r s
    | none => .no) q).imp ?_
  rintro v H2 ⟨FF, env, st, d, W, μ, S, E, r1, p⟩
  cases e : truD d st with
  | none => rw [e] at p; exact False.elim p
  | some r =>
    rw [e] at p
    exact tru_v ⟨FF, st, W, μ, d, r, S, r1, e, pt_ret (a := r) S p rfl⟩
theorem t_not (c : CtxOk C m X WE k) {x : T} {a : Expr} {pos : Pos} (ha : PT X a (RdT C X WE x)) : PT X (.UnaryOp .Not a pos) (RdT C X WE (.not x)) := by
  refine (pt_not ha).imp ?_
  intro σ H Q q
  refine (rd_bnd (m := evT C x) (rel := relB) (rel2 := relB) (f := fun _ r => ret (!r)) q).imp ?_
  rintro b H2 ⟨FF, env, st, d, W, μ, S, E, rfl, p⟩
  exact pt_ret S p rfl
theorem rd_if {α β : Type} {rel : Rl α β} {x : T} {f g : En → M α} {σ : L2.St} {H : Hp} {Q : β → Hp → Prop} (q : rd X.K X.mg WE rel (fun e => bnd (evT C x e) fun r => (match r with
      | true => f e
      | false => g e)) σ H Q) : RdT C X WE x σ H (fun b H1 => if b = true then rd X.K X.mg WE rel f σ H1 Q else rd X.K X.mg WE rel g σ H1 Q) := by
  refine (rd_bnd (m := evT C x) (rel := relB) (rel2 := rel) (f := fun e r => (match r with
      | true => f e
      | false => g e)) q).imp ?_
  rintro b H2 ⟨FF, env, st, d, W, μ, S, E, rfl, p⟩
  cases d with
  | true =>
    simp only [if_true]
    exact ⟨FF, env, st, W, μ, S, E, p⟩
  | false =>
    simp only [Bool.false_eq_true, if_false]
    exact ⟨FF, env, st, W, μ, S, E, p⟩
theorem rd_retB {b : Bool} {σ : L2.St} {H : Hp} {Q : Bool → Hp → Prop} (q : rd X.K X.mg WE relB (fun _ => ret b) σ H Q) : Q b H := by
  obtain ⟨FF, env, st, W, μ, S, E, p⟩ := rd_ret (g := fun _ => b) q
  exact p b rfl
theorem pw_of {op : BoolOp} {es : List Expr} {pos : Pos} {t : TT} (h : PT X (.BoolOp op es pos) t) : PW X (.BoolOp op es pos) t := ⟨fun _ pins s σ H Q I q => h.run pins s σ H Q I q⟩
theorem t_and (c : CtxOk C m X WE k) {x y : T} {a b : Expr} {r : List Expr} {pos : Pos} (ha : PT X a (RdT C X WE x)) (hb : (r = [] → PT X b (RdT C X WE y)) ∧ (r ≠ [] → PT X (.BoolOp .And (b :: r) pos) (RdT C X WE y))) : PT X (.BoolOp .And (a :: b :: r) pos) (RdT C X WE (.and x y)) := by
  have hw : PW X (.BoolOp .And (b :: r) pos) (RdT C X WE y) := by
    cases r with
    | nil => exact pw_and1 (hb.1 rfl)
    | cons _ _ => exact pw_of (hb.2 (by simp))
  refine (pw_and ha hw).pt.imp ?_
  intro σ H Q q
  exact rd.imp (rd_if (f := evT C y) (g := fun _ => ret false) q) fun b H1 q1 => by
    cases b with
    | true => exact q1
    | false => exact rd_retB q1
theorem t_or (c : CtxOk C m X WE k) {x y : T} {a b : Expr} {r : List Expr} {pos : Pos} (ha : PT X a (RdT C X WE x)) (hb : (r = [] → PT X b (RdT C X WE y)) ∧ (r ≠ [] → PT X (.BoolOp .Or (b :: r) pos) (RdT C X WE y))) : PT X (.BoolOp .Or (a :: b :: r) pos) (RdT C X WE (.or x y)) := by
  have hw : PW X (.BoolOp .Or (b :: r) pos) (RdT C X WE y) := by
    cases r with
    | nil => exact pw_or1 (hb.1 rfl)
    | cons _ _ => exact pw_of (hb.2 (by simp))
  refine (pw_or ha hw).pt.imp ?_
  intro σ H Q q
  exact rd.imp (rd_if (f := fun _ => ret true) (g := evT C y) q) fun b H1 q1 => by
    cases b with
    | true => exact rd_retB q1
    | false => exact q1
theorem s_ife (c : CtxOk C m X WE k) {t : T} {x y : Ev.E} {q a b : Expr} {pos : Pos} (hq : PT X q (RdT C X WE t)) (ha : PE X a (RdE C X WE x)) (hb : PE X b (RdE C X WE y)) : PE X (.IfExp q a b pos) (RdE C X WE (.ife t x y)) :=
  (pe_ifExp hq ha hb).imp fun σ H Q q => rd_if (f := evE C x) (g := evE C y) q
theorem rd_ifM {α β : Type} {rel : Rl α β} {x : Ev.E} {f g : En → M α} {σ : L2.St} {H : Hp} {Q : β → Hp → Prop} (q : rd X.K X.mg WE rel (fun e => bnd (blM (evE C x e)) fun r => (match r with
      | true => f e
      | false => g e)) σ H Q) : RdE C X WE x σ H (fun v H1 => ∃ b, v = .bl b ∧ if b = true then rd X.K X.mg WE rel f σ H1 Q else rd X.K X.mg WE rel g σ H1 Q) := by
  refine (rd_blM (ev := evE C x) (f := fun e r => (match r with
      | true => f e
      | false => g e)) q).imp ?_
  rintro v H1 ⟨b, rfl, FF, env, st, W, μ, S, E, p⟩
  refine ⟨b, rfl, ?_⟩
  cases b with
  | true =>
    simp only [if_true]
    exact ⟨FF, env, st, W, μ, S, E, p⟩
  | false =>
    simp only [Bool.false_eq_true, if_false]
    exact ⟨FF, env, st, W, μ, S, E, p⟩
theorem rd_retD {b : Bool} {σ : L2.St} {H : Hp} {Q : VK} (q : rd X.K X.mg WE (relA X.K X.mg) (fun _ => ret (D.bl b)) σ H Q) : Q (.bl b) H := by
  obtain ⟨FF, env, st, W, μ, S, E, p⟩ := rd_ret (g := fun _ => D.bl b) q
  exact p (.bl b) rfl
theorem s_and (c : CtxOk C m X WE k) {x y : Ev.E} {a b : Expr} {r : List Expr} {pos : Pos} (ha : PE X a (RdE C X WE x)) (hb : (r = [] → PE X b (RdE C X WE y)) ∧ (r ≠ [] → PE X (.BoolOp .And (b :: r) pos) (RdE C X WE y))) : PE X (.BoolOp .And (a :: b :: r) pos) (RdE C X WE (.andv x y)) := by
  have hw : PE X (.BoolOp .And (b :: r) pos) (RdE C X WE y) := by
    cases r with
    | nil => exact pe_one (hb.1 rfl)
    | cons _ _ => exact hb.2 (by simp)
  refine (pe_and ha hw).imp ?_
  intro σ H Q q
  exact rd.imp (rd_ifM (f := evE C y) (g := fun _ => ret (D.bl false)) q) fun v H1 ⟨b, e, q1⟩ => ⟨b, e, by
    cases b with
    | true => exact q1
    | false => exact rd_retD q1⟩
theorem s_or (c : CtxOk C m X WE k) {x y : Ev.E} {a b : Expr} {r : List Expr} {pos : Pos} (ha : PE X a (RdE C X WE x)) (hb : (r = [] → PE X b (RdE C X WE y)) ∧ (r ≠ [] → PE X (.BoolOp .Or (b :: r) pos) (RdE C X WE y))) : PE X (.BoolOp .Or (a :: b :: r) pos) (RdE C X WE (.orv x y)) := by
  have hw : PE X (.BoolOp .Or (b :: r) pos) (RdE C X WE y) := by
    cases r with
    | nil => exact pe_one (hb.1 rfl)
    | cons _ _ => exact hb.2 (by simp)
  refine (pe_or ha hw).imp ?_
  intro σ H Q q
  exact rd.imp (rd_ifM (f := fun _ => ret (D.bl true)) (g := evE C y) q) fun v H1 ⟨b, e, q1⟩ => ⟨b, e, by
    cases b with
    | true => exact rd_retD q1
    | false => exact q1⟩
/-- a slice's parts -/
theorem po_of (c : CtxOk C m X WE k) {es : Es} {o : Option Expr} (h : (o = none ∧ es = .nil) ∨ ∃ x e, o = some x ∧ es = .cons e .nil ∧ PE X x (RdE C X WE e)) :
    ∃ t, PO X o t ∧ ∀ σ H (Q : Option Int → Hp → Prop), RdA C X WE es σ H (fun vs H1 => ∃ i, PV vs i ∧ Q i H1) → t σ H Q := by
  rcases h with ⟨rfl, rfl⟩ | ⟨x, e, rfl, rfl, he⟩
  · refine ⟨_, po_none, fun σ H Q q => ?_⟩
    obtain ⟨i, h | ⟨j, h, _⟩, q⟩ := rd_nil q
    · rw [h.2] at q
      exact q
    · cases h
  · refine ⟨_, po_some he, fun σ H Q q => rd.imp (rd_cons q) fun v H1 q1 => ?_⟩
    obtain ⟨i, h | ⟨j, h, e⟩, q⟩ := rd_nil q1
    · cases h.1
    · cases h
      subst e
      exact ⟨j, rfl, q⟩
theorem s_sl (c : CtxOk C m X WE k) {mm : Bool} {x : Ev.E} {lo hi : Es} {a : Expr} {l h : Option Expr} {p2 pos : Pos} (ha : PE X a (RdE C X WE x))
    (hl : (l = none ∧ lo = .nil) ∨ ∃ y e, l = some y ∧ lo = .cons e .nil ∧ PE X y (RdE C X WE e)) (hh : (h = none ∧ hi = .nil) ∨ ∃ y e, h = some y ∧ hi = .cons e .nil ∧ PE X y (RdE C X WE e)) :
    PE X (.Subscript a (.Slice l h none p2) pos) (RdE C X WE (.sl mm x lo hi)) := by
  obtain ⟨tl, pl, gl⟩ := po_of c hl
  obtain ⟨th, ph, gh⟩ := po_of c hh
  refine (pe_slice (sl_cut (WE := WE) (m := mm)) ha pl ph).imp ?_
  intro σ H Q q
  refine (rd_bnd (m := evE C x) (rel2 := relA X.K X.mg) (f := fun e x => bnd (evEs C lo e) fun l => optB (optI l) fun l => bnd (evEs C hi e) fun h => optB (optI h) fun h => cutO mm x l h) q).imp ?_
  rintro v H1 ⟨FF, env, st, d, W, μ, S, E, r, p⟩
  refine gl σ H1 _ (rd_at (env := env) S E ((pt_bnd (rel := relL X.K X.mg) p).imp ?_))
  rintro vs H2 ⟨ds, st2, W2, μ2, S2, x2, r2, p⟩
  obtain ⟨i, ei, p⟩ := optB_pt p
  refine ⟨i, optI_pv ei r2, gh σ H2 _ (rd_at (env := env) S2 (E.mono x2) ((pt_bnd (rel := relL X.K X.mg) p).imp ?_))⟩
  rintro us H3 ⟨es, st3, W3, μ3, S3, x3, r3, p⟩
  obtain ⟨j, ej, p⟩ := optB_pt p
  exact ⟨j, optI_pv ej r3, FF, σ, st3, W3, μ3, d, S3, (r.mono x2).mono x3, p⟩
theorem s_call (c : CtxOk C m X WE k) {f : Str} {es : Es} {xs : List Expr} {p pos : Pos} (hf : m.fns.contains f = true) (hg : gloB m f f = true) (hm : mtEs m es xs = true) (ih : PA X xs (RdA C X WE es)) : PE X (.Call (.Name f p) xs [] pos) (RdE C X WE (.call f es)) := by
  obtain ⟨_, g1, g2, _⟩ := c.gl hg
  have fin : ∀ σ H Q, RdE C X WE (.call f es) σ H Q → tCallG X.K X.mg WE (C.orc.fn f) (RdA C X WE es) σ H Q := fun σ H Q q => by
    refine (rd_bnd (m := evEs C es) (rel2 := relA X.K X.mg) (f := fun _ xs => C.orc.fn f xs) q).imp ?_
    rintro vs H1 ⟨FF, env, st, ds, W, μ, S, E, r, p⟩
    exact ⟨FF, st, W, μ, ds, S, r, Pt.x _ _ p⟩
  cases xs with
  | nil =>
    have ee : es = .nil := by cases es <;> first | rfl | (simp [mtEs] at hm)
    subst ee
    exact (pe_callG0 c hf g1 g2).imp fun σ H Q q => rd_nil (C := C) (fin σ H Q q)
  | cons y ys => exact (pe_callG c hf g1 g2 ih hm (by simp)).imp fin
theorem s_bi (c : CtxOk C m X WE k) {b : Bf} {es : Es} {xs : List Expr} {p pos : Pos} (hg : gloB m (bfN b) (bfN b) = true) (hm : mtEs m es xs = true) (hne : xs.isEmpty = false) (hgc : b = .gcd → m.gcd = true) (ih : PA X xs (RdA C X WE es)) : PE X (.Call (.Name (bfN b) p) xs [] pos) (RdE C X WE (.bi b es)) := by
  obtain ⟨_, g1, g2, g3⟩ := c.gl hg
  cases xs with
  | nil => cases hne
  | cons y ys =>
    cases es with
    | nil => simp [mtEs] at hm
    | cons e r =>
      simp only [mtEs, Bool.and_eq_true] at hm
      have he := nst_each hm.1.2 ys X.env
      have hpl : (backTo pos (starEach ys X.env)).any (·.1) = false := by rw [back_any, nst_all X.env hm.2]
      have fin : ∀ σ H Q, RdE C X WE (.bi b (.cons e r)) σ H Q → tCB (rL X.K X.mg WE (biD b)) (RdA C X WE (.cons e r)) σ H Q := fun σ H Q q => by
        refine (rd_bnd (m := evEs C (.cons e r)) (rel2 := relA X.K X.mg) (f := fun _ xs => biD b xs) q).imp ?_
        rintro vs H1 ⟨FF, env, st, ds, W, μ, S, E, rr, p⟩
        exact ⟨FF, σ, st, W, μ, ds, S, rr, p⟩
      have cr : CallR X (bfV b) (rL X.K X.mg WE (biD b)) := cr_bi c.calm c.room.g (by have := c.hu; omega)
      by_cases hb : b = .gcd
      · subst hb
        exact (pe_callBfun cr g1 (c.gcd (hgc rfl)) ih g2 he hpl).imp fin
      · have hbo := bfN_boot hb
        have hmg := c.bn _ (bfN_in hb)
        cases b <;> first
          | exact absurd rfl hb
          | exact (pe_callB cr g1 hmg hbo ih g3 g2 he hpl).imp fin
          | exact (pe_callTy cr g1 hmg hbo ih g3 g2 he hpl).imp fin
theorem s_mkb (c : CtxOk C m X WE k) {b : Bm} {mm : Bool} {es : Es} {xs : List Expr} {p pos : Pos} (hg : gloB m (bmN b) (bmN b) = true) (hm : mtEs m es xs = true) (hne : xs.isEmpty = false) (ih : PA X xs (RdA C X WE es)) : PE X (.Call (.Name (bmN b) p) xs [] pos) (RdE C X WE (.mkb b mm es)) := by
  obtain ⟨_, g1, g2, g3⟩ := c.gl hg
  cases xs with
  | nil => cases hne
  | cons y ys =>
    cases es with
    | nil => simp [mtEs] at hm
    | cons e r =>
      simp only [mtEs, Bool.and_eq_true] at hm
      have he := nst_each hm.1.2 ys X.env
      have hpl : (backTo pos (starEach ys X.env)).any (·.1) = false := by rw [back_any, nst_all X.env hm.2]
      have fin : ∀ σ H Q, RdE C X WE (.mkb b mm (.cons e r)) σ H Q → tCB (rL X.K X.mg WE (mkD b mm)) (RdA C X WE (.cons e r)) σ H Q := fun σ H Q q => by
        refine (rd_bnd (m := evEs C (.cons e r)) (rel2 := relA X.K X.mg) (f := fun _ xs => mkD b mm xs) q).imp ?_
        rintro vs H1 ⟨FF, env, st, ds, W, μ, S, E, rr, p⟩
        exact ⟨FF, σ, st, W, μ, ds, S, rr, p⟩
      have cr : CallR X (bmV b) (rL X.K X.mg WE (mkD b mm)) := cr_mk
      have hbo := bmN_boot (b := b)
      have hmg := c.bn _ (bmN_in (b := b))
      cases b <;> first
        | exact (pe_callB cr g1 hmg hbo ih g3 g2 he hpl).imp fin
        | exact (pe_callTy cr g1 hmg hbo ih g3 g2 he hpl).imp fin
end
end Ev
end
section
set_option Elab.async false
set_option linter.all false
set_option maxRecDepth 100000
set_option maxHeartbeats 1000003
namespace Ev
open PySem PySem.Spec PyProof.Rows L2
variable [Gh]
section
variable {C : Cx'} {m : MC} {X : Cx} {WE : WX} {k : Nat}
theorem nst_alls {m : MC} : ∀ {c : Es} {es : List Expr} (env : Env), mtEs m c es = true → (starEach es env).all (fun x => !x.1) = true ∧ (starEach es env).length = es.length
  | .nil, es, env, h => by
    cases es with
    | nil => exact ⟨rfl, rfl⟩
    | cons _ _ => simp [mtEs] at h
  | .cons e r, es, env, h => by
    cases es with
    | nil => simp [mtEs] at h
    | cons x xs =>
      simp only [mtEs, Bool.and_eq_true] at h
      obtain ⟨h1, h2⟩ := nst_alls env h.2
      rw [nst_each h.1.2, List.all_cons, h1]
      exact ⟨rfl, by simp [h2]⟩
theorem s_meth (c : CtxOk C m X WE k) {f : Me} {x : Ev.E} {es : Es} {a : Expr} {xs : List Expr} {ap cp : Pos} (hl : (ap.endLine == cp.line) = true) (hn : nsup a = true) (hm : mtEs m es xs = true) (h30 : xs.length < 30) (hne : xs ≠ []) (hf : f ≠ .bits)
    (ha : PE X a (RdE C X WE x)) (ih : PA X xs (RdA C X WE es)) : PE X (.Call (.Attribute a (meS f) ap) xs [] cp) (RdE C X WE (.met x f es)) := by
  cases xs with
  | nil => exact absurd rfl hne
  | cons y ys =>
    cases es with
    | nil => simp [mtEs] at hm
    | cons e r =>
      obtain ⟨w1, w2⟩ := nst_alls X.env hm
      have hm0 := hm
      simp only [mtEs, Bool.and_eq_true] at hm
      have he := nst_each hm.1.2 ys X.env
      have hpl : (backTo cp (starEach ys X.env)).any (·.1) = false := by rw [back_any, nst_all X.env hm.2]
      have hfew : ((backTo cp (starEach (y :: ys) X.env)).all (fun x => !x.1) && (backToKw cp (keywordEach [] X.env)).all (fun x => x.1.isSome) && decide ((y :: ys).length + ([] : List Keyword).length + (if ([] : List Keyword).isEmpty then 0 else 1) < 30)) = true := by
        have e1 : (backTo cp (starEach (y :: ys) X.env)).all (fun x => !x.1) = true := by
          unfold backTo
          rw [List.all_map]
          exact w1
        rw [e1]
        have : decide ((y :: ys).length + ([] : List Keyword).length + (if ([] : List Keyword).isEmpty then 0 else 1) < 30) = true := decide_eq_true (by simpa using h30)
        rw [this]
        rfl
      have fin : ∀ {id : String}, (∀ (b : D) (H : Hp) (W : Vw) (x : V), True) → ∀ σ H Q, RdE C X WE (.met x f (.cons e r)) σ H Q → tBM X.K "list" (rM X.K X.mg WE fun a xs => metD a f xs) (RdE C X WE x) (RdA C X WE (.cons e r)) σ H Q := fun {id} _ σ H Q q => by
        refine (rd_bnd (m := evE C x) (rel2 := relA X.K X.mg) (f := fun en d s => if metB f (thD d s) then bnd (evEs C (.cons e r) en) (fun xs => metD d f xs) s else .no) q).imp ?_
        rintro v H1 ⟨FF, env, st, d, W, μ, S, E, r1, p⟩
        split at p
        · rename_i cb
          have el : ∃ ds, thD d st = .lst ds := by
            cases f <;> first | exact absurd rfl hf | (cases e : thD d st <;> rw [e] at cb <;> first | exact ⟨_, rfl⟩ | cases cb)
          obtain ⟨ds, el⟩ := el
          obtain ⟨t, vs, rfl, q1, q2⟩ := lst_of S r1 el
          refine ⟨.inl ⟨rfl, vs, SqL.of q1⟩, rd_at (env := env) S E ((pt_bnd (rel := relL X.K X.mg) p).imp ?_)⟩
          rintro us H2 ⟨es', st2, W2, μ2, S2, x2, r2, p⟩
          exact ⟨FF, σ, st2, W2, μ2, d, es', S2, r1.mono x2, r2, p⟩
        · exact False.elim p
      cases f with
      | bits => exact absurd rfl hf
      | append => exact (pe_bm PySem.F.plainAttrs_list PySem.F.slot_list_append (by first | rfl | (with_unfolding_all rfl) | (decide +kernel)) (mt_append' (WE := WE)) ha ih (nsup_base hn _ _ _) hfew hl he hpl).imp (fin (id := "") fun _ _ _ _ => trivial)
      | insert => exact (pe_bm PySem.F.plainAttrs_list PySem.F.slot_list_insert (by first | rfl | (with_unfolding_all rfl) | (decide +kernel)) (mt_insert' (WE := WE)) ha ih (nsup_base hn _ _ _) hfew hl he hpl).imp (fin (id := "") fun _ _ _ _ => trivial)
      | pop => exact (pe_bm PySem.F.plainAttrs_list PySem.F.slot_list_pop (by first | rfl | (with_unfolding_all rfl) | (decide +kernel)) (mt_pop' (WE := WE)) ha ih (nsup_base hn _ _ _) hfew hl he hpl).imp (fin (id := "") fun _ _ _ _ => trivial)
theorem s_bits (c : CtxOk C m X WE k) {x : Ev.E} {a : Expr} {ap cp : Pos} (hl : (ap.endLine == cp.line) = true) (hn : nsup a = true) (ha : PE X a (RdE C X WE x)) : PE X (.Call (.Attribute a "bit_length" ap) [] [] cp) (RdE C X WE (.met x .bits .nil)) := by
  refine (pe_bits ha (nsup_base hn _ _ _) hl).imp ?_
  intro σ H Q q
  refine (rd_bnd (m := evE C x) (rel2 := relA X.K X.mg) (f := fun en d s => if metB .bits (thD d s) then bnd (evEs C .nil en) (fun xs => metD d .bits xs) s else .no) q).imp ?_
  rintro v H1 ⟨FF, env, st, d, W, μ, S, E, r1, p⟩
  split at p
  · have p' : Pt X.K X.mg WE (relA X.K X.mg) FF σ W μ (metD d .bits [] st) Q := p
    unfold metD at p'
    dsimp only at p'
    cases d <;> first | exact False.elim p' | skip
    rename_i i _
    obtain rfl : v = .int i := r1
    refine ⟨i, rfl, ?_⟩
    have := pt_ret (b := V.int (Builtin.Int.intBits i : Nat)) S p' (by
      show _ = _
      congr 1
      unfold Builtin.Int.intBits
      by_cases h : i = 0
      · subst h; rfl
      · rw [if_neg h, if_neg (by simpa using h)])
    exact this
  · exact False.elim p
theorem vals_ref {H : Hp} : True := trivial
theorem s_isi (c : CtxOk C m X WE k) {x : Ev.E} {kd : Kd} {a q : Expr} {p pos : Pos} (hg : gloB m "isinstance" "isinstance" = true) (hna : nst a = true) (hnq : nst q = true) (hk : kdB m kd q = true) (ha : PE X a (RdE C X WE x)) :
    PE X (.Call (.Name "isinstance" p) [a, q] [] pos) (RdE C X WE (.isi x [kd])) := by
  obtain ⟨_, g1, g2, g3⟩ := c.gl hg
  obtain ⟨v, u, h1, h2, h3⟩ := kd_ok c hk
  have pa : PA X [a, q] (tCons (RdE C X WE x) (tCons (tC v) tNil)) := pa_cons ha (pa_cons h2 pa_nil (nst_each hnq _ _)) (nst_each hna _ _)
  have hpl : (backTo pos (starEach [q] X.env)).any (·.1) = false := by rw [nst_each hnq]; rfl
  refine (pe_callB (cr_isi (WE := WE) c.isa (k := kd)) g1 (c.bn _ (by decide)) PyProof.Rows.boot_isinstance pa g3 g2 (nst_each hna _ _) hpl).imp ?_
  intro σ H Q qq
  refine (rd_bnd (m := evE C x) (rel2 := relA X.K X.mg) (f := fun _ d => isiF C.isa [kd] d) qq).imp ?_
  rintro z H1 ⟨FF, env, st, d, W, μ, S, E, r1, pp⟩
  exact ⟨FF, σ, st, W, μ, d, z, v, u, rfl, h1, S, r1, pp⟩
theorem s_isiT (c : CtxOk C m X WE k) {x : Ev.E} {ks : List Kd} {a : Expr} {cs : List Expr} {kk : Nat} {p p2 pos : Pos} (hg : gloB m "isinstance" "isinstance" = true) (hna : nst a = true) (hk : kdsB m ks cs = true) (hne : ks ≠ []) (h100 : ks.length ≤ 100) (ha : PE X a (RdE C X WE x)) :
    PE X (.Call (.Name "isinstance" p) [a, .Tuple cs kk p2] [] pos) (RdE C X WE (.isi x ks)) := by
  obtain ⟨_, g1, g2, g3⟩ := c.gl hg
  obtain ⟨vs, us, h1, h2, h3⟩ := kds_ok c hk
  have pa : PA X [a, .Tuple cs kk p2] (tCons (RdE C X WE x) (tCons (tTup (tCs vs)) tNil)) := pa_cons ha (pa_cons (pe_tup h2) pa_nil (nst_each rfl _ _)) (nst_each hna _ _)
  refine (pe_callB (cr_isiT (WE := WE) c.isa (ks := ks)) g1 (c.bn _ (by decide)) PyProof.Rows.boot_isinstance pa g3 g2 (nst_each hna _ _) rfl).imp ?_
  intro σ H Q qq
  refine (rd_bnd (m := evE C x) (rel2 := relA X.K X.mg) (f := fun _ d => isiF C.isa ks d) qq).imp ?_
  rintro z H1 ⟨FF, env, st, d, W, μ, S, E, r1, pp⟩
  refine tCs_run ⟨?_, fun tp htp => ?_⟩
  · have len : ∀ {ks : List Kd} {vs : List V} {us : List Value}, KdVs X.mg ks vs us → vs.length = ks.length := by
      intro ks vs us h
      induction h with
      | nil => rfl
      | cons _ _ ih => rw [List.length_cons, List.length_cons, ih]
    rw [len h1]
    have := line1m
    omega
  · exact ⟨FF, σ, st, W, μ, d, z, vs, us, tp, rfl, upd_same, h1, hne, S.fresh htp, r1, pp⟩
theorem s_comp (c : CtxOk C m X WE k) {mm : Bool} {own : List (Str × Nat)} {tg : Tg} {it : Ev.It} {cs : Ts} {elt : Ev.E} {x t i : Expr} {fs : List Expr} {scope : Scope} {pos : Pos} (hb : L2.blkC m.N m.sc scope own = true) (hs : nset i = true) (hi : PI X t i (tQ X.K X.mg WE (evItQ C it)))
    (hg : ∀ (s : Shared) (H : Hp) (D : Addr) (cl : List (Str × Addr)) (fp : List Addr), PG (X.blk s H scope (compEnvC scope cl D X.env) fp) t (gP X.K X.mg (own.map (·.2)) tg))
    (ht : ∀ (s : Shared) (H : Hp) (D : Addr) (cl : List (Str × Addr)) (fp : List Addr), PTs (X.blk s H scope (compEnvC scope cl D X.env) fp) fs (rd X.K X.mg (fun _ _ _ _ => False) relB (evTs C cs)))
    (he : ∀ (s : Shared) (H : Hp) (D : Addr) (cl : List (Str × Addr)) (fp : List Addr), PE (X.blk s H scope (compEnvC scope cl D X.env) fp) x (rd X.K X.mg (fun _ _ _ _ => False) (relA X.K X.mg) (evE C elt))) :
    PE X (.ListComp x [⟨t, i, fs, 0⟩] scope pos) (RdE C X WE (.comp mm own tg it cs elt)) := by
  have ok : BlkOk X.N X.env.scope scope own := by
    rw [c.hN, c.hsc]
    exact blkOk_by hb
  exact (pe_lc c.calm (c.hN ▸ c.nd) hi ok hg ht he (nset_for hs X.env)).imp fun σ H Q q => rd_comp C q
/-- iterables -/
theorem i_seq (c : CtxOk C m X WE k) {x : Ev.E} {a t : Expr} (ha : PE X a (RdE C X WE x)) : PI X t a (rd X.K X.mg WE (relI X.K X.mg) (evIt C (.seq x))) := by
  refine (pi_seq ha).imp ?_
  intro σ H R q
  refine (rd_bnd (m := evE C x) (rel2 := relI X.K X.mg) (f := fun _ d => bnd (frzD d) fun d => opt (itemsO d)) q).imp ?_
  rintro v H1 ⟨FF, env, st, d, W, μ, S, E, r1, p⟩
  obtain ⟨d', st', W', S', x', rp, p⟩ := frz_pt S r1 p
  cases e : itemsO d' with
  | none => rw [e] at p; exact False.elim p
  | some ds =>
    rw [e] at p
    have get := items_rp (H := W'.G) (SubG.refl _) (Rpt.of (SubG.refl _) rp) e
    obtain ⟨t, vs, rfl, hq, r2⟩ := get
    refine ⟨t, vs, rfl, ?_⟩
    rcases hq with hq | hq
    · exact .inr ⟨sqT_sub S'.sub hq, pt_ret (b := Itt X.K t) S' p (ItR.tup hq r2)⟩
    · exact .inl ⟨sqL_sub S'.sub hq, pt_ret (b := Itl X.K t) S' p (ItR.list hq r2)⟩
/-- list(range(..)) -/
theorem alloc_rg {FF : List (Addr × HO)} {τ : L2.St} {W : Vw} {μ : List Addr} {H : Hp} {st : Sto} {mm : Bool} {ds : List Ev.D} {ys : List Ev.D} {a b : Int} {Q : VK} {p : Addr} (S : SA X.K X.mg FF H W μ st) (hp : H p = none) (e : rngD ds = some ys) (hy : ys = (List.range (b - a).toNat).map fun (i : Nat) => Ev.D.int (a + i))
    (h : Pt X.K X.mg WE (relA X.K X.mg) FF τ W μ (alloc mm (.lst ys) st) Q) : Q (.ref p) (upd H p (.lst (rgV a b))) := by
  refine alloc_lst S hp ?_ h
  rw [hy]
  unfold rgV
  have : ∀ l : List Nat, Rps X.K X.mg W (l.map fun (i : Nat) => Ev.D.int (a + i)) (l.map fun i => V.int (a + (i : Nat))) := by
    intro l
    induction l with
    | nil => exact Rps.nil
    | cons x l ih => exact Rps.cons (by simp only [Rp]) ih
  exact this _
theorem s_lrg1 (c : CtxOk C m X WE k) {mm : Bool} {x : Ev.E} {a : Expr} {p p1 pos pos1 : Pos} (hl : gloB m "list" "list" = true) (hr : gloB m "range" "range" = true) (hn : nst a = true) (ha : PE X a (RdE C X WE x)) :
    PE X (.Call (.Name "list" p) [.Call (.Name "range" p1) [a] [] pos1] [] pos) (RdE C X WE (.lrg mm (.cons x .nil))) := by
  obtain ⟨_, g1, _⟩ := c.gl hl
  obtain ⟨_, g2, _⟩ := c.gl hr
  refine (pe_listRg c.calm g1 (c.bn "list" (by decide)) (prg_1 g2 (c.bn "range" (by decide)) ha (nst_each hn _ _)) (nst_each rfl _ _)).imp ?_
  intro σ H Q q
  have e : ∀ en, evE C (.lrg mm (.cons x .nil)) en = bnd (evE C x en) fun d => optB (rngD [d]) fun ys => alloc mm (.lst ys) := fun en => by
    show bnd (bnd (evE C x en) fun d => bnd (ret []) fun xs => ret (d :: xs)) _ = _
    rw [bnd_bnd]
    rfl
  have q' : rd X.K X.mg WE (relA X.K X.mg) (fun en => bnd (evE C x en) fun d => optB (rngD [d]) fun ys => alloc mm (.lst ys)) σ H Q := by
    obtain ⟨FF, env, st, W, μ, S, E, p⟩ := q
    refine ⟨FF, env, st, W, μ, S, E, ?_⟩
    rw [e] at p
    exact p
  refine (rd_bnd (m := evE C x) (rel2 := relA X.K X.mg) (f := fun _ d => optB (rngD [d]) fun ys => alloc mm (.lst ys)) q').imp ?_
  rintro v H1 ⟨FF, env, st, d, W, μ, S, E, r1, p⟩
  obtain ⟨ys, ey, p⟩ := optB_pt p
  obtain ⟨n, rfl⟩ : ∃ n, d = .int n := by
    have z : rngD [d] = none ∨ ∃ n, d = .int n := by cases d <;> first | exact .inl rfl | exact .inr ⟨_, rfl⟩
    rcases z with z | z
    · rw [z] at ey
      cases ey
    · exact z
  obtain rfl : v = .int n := r1
  have ey' := ey
  unfold rngD at ey
  dsimp only at ey
  split at ey
  · rename_i cc
    obtain ⟨c1, c2⟩ := Bool.and_eq_true_iff.mp cc
    have c1 := of_decide_eq_true c1
    have c2 := of_decide_eq_true c2
    cases ey
    refine ⟨n, rfl, ⟨by omega, by omega, by omega, by omega, by omega⟩, fun q hq => alloc_rg S hq ey' ?_ p⟩
    simp
  · cases ey
theorem s_lrg2 (c : CtxOk C m X WE k) {mm : Bool} {x y : Ev.E} {a b : Expr} {p p1 pos pos1 : Pos} (hl : gloB m "list" "list" = true) (hr : gloB m "range" "range" = true) (hn : nst a = true) (hn2 : nst b = true) (ha : PE X a (RdE C X WE x)) (hb : PE X b (RdE C X WE y)) :
    PE X (.Call (.Name "list" p) [.Call (.Name "range" p1) [a, b] [] pos1] [] pos) (RdE C X WE (.lrg mm (.cons x (.cons y .nil)))) := by
  obtain ⟨_, g1, _⟩ := c.gl hl
  obtain ⟨_, g2, _⟩ := c.gl hr
  refine (pe_listRg c.calm g1 (c.bn "list" (by decide)) (prg_2 g2 (c.bn "range" (by decide)) ha hb (nst_each hn _ _) (nst_each hn2 _ _) (by rw [nst_each hn2]; rfl)) (nst_each rfl _ _)).imp ?_
  intro σ H Q q
  have e : ∀ en, evE C (.lrg mm (.cons x (.cons y .nil))) en = bnd (evE C x en) fun d => bnd (evE C y en) fun d' => optB (rngD [d, d']) fun ys => alloc mm (.lst ys) := fun en => by
    show bnd (bnd (evE C x en) fun d => bnd (bnd (evE C y en) fun d' => bnd (ret []) fun xs => ret (d' :: xs)) fun xs => ret (d :: xs)) _ = _
    rw [bnd_bnd]
    congr 1
    funext d
    rw [bnd_bnd, bnd_bnd]
    rfl
  have q' : rd X.K X.mg WE (relA X.K X.mg) (fun en => bnd (evE C x en) fun d => bnd (evE C y en) fun d' => optB (rngD [d, d']) fun ys => alloc mm (.lst ys)) σ H Q := by
    obtain ⟨FF, env, st, W, μ, S, E, p⟩ := q
    refine ⟨FF, env, st, W, μ, S, E, ?_⟩
    rw [e] at p
    exact p
  refine (rd_bnd2 (rel := relA X.K X.mg) (relX := relA X.K X.mg) relA_mono q').imp fun v H1 q1 => q1.imp ?_
  rintro u H2 ⟨FF, env, st, d, d', W, μ, S, E, r1, r2, p⟩
  obtain ⟨ys, ey, p⟩ := optB_pt p
  obtain ⟨n, n', rfl, rfl⟩ : ∃ n n', d = .int n ∧ d' = .int n' := by
    have z : rngD [d, d'] = none ∨ ∃ n n', d = .int n ∧ d' = .int n' := by cases d <;> first | exact .inl rfl | (cases d' <;> first | exact .inl rfl | exact .inr ⟨_, _, rfl, rfl⟩)
    rcases z with z | z
    · rw [z] at ey
      cases ey
    · exact z
  obtain rfl : v = .int n := r1
  obtain rfl : u = .int n' := r2
  have ey' := ey
  unfold rngD at ey
  dsimp only at ey
  split at ey
  · rename_i cc
    obtain ⟨cc1, cc2⟩ := Bool.and_eq_true_iff.mp cc
    obtain ⟨c1, c2⟩ := Bool.and_eq_true_iff.mp cc1
    obtain ⟨c3, c4⟩ := Bool.and_eq_true_iff.mp cc2
    have c1 := of_decide_eq_true c1
    have c2 := of_decide_eq_true c2
    have c3 := of_decide_eq_true c3
    have c4 := of_decide_eq_true c4
    cases ey
    exact ⟨n, n', rfl, rfl, ⟨by omega, by omega, by omega, by omega, by omega⟩, fun q hq => alloc_rg S hq ey' rfl p⟩
  · cases ey
theorem i_rng (c : CtxOk C m X WE k) {es : Es} {xs : List Expr} {p pos : Pos} {t : Expr} (hg : gloB m "range" "range" = true) (hm : mtEs m es xs = true) (hl : xs.length = 1 ∨ xs.length = 2) (ih : PA X xs (RdA C X WE es)) :
    PI X t (.Call (.Name "range" p) xs [] pos) (rd X.K X.mg WE (relI X.K X.mg) (evIt C (.rng es))) := by
  obtain ⟨_, g1, g2, g3⟩ := c.gl hg
  have hb := c.bn "range" (by decide)
  have split1 : ∀ {y : Expr}, nst y = true → starEach [y] X.env = [(false, eval y X.env)] := fun h => by rw [nst_each h]; rfl
  have hlen := mtEs_len hm
  have fin : ∀ σ H R, rd X.K X.mg WE (relI X.K X.mg) (evIt C (.rng es)) σ H R → RdA C X WE es σ H (fun vs H1 => vs.length = lenEs es ∧ ((∃ j : Int, vs = [.int j] ∧ -(2 ^ 62) ≤ j ∧ j < 2 ^ 62 ∧ R (Itr 0 j.toNat) H1) ∨ ∃ i j : Int, vs = [.int i, .int j] ∧ (-(2 ^ 62) ≤ i ∧ i < 2 ^ 62 ∧ -(2 ^ 62) ≤ j ∧ j < 2 ^ 62) ∧ R (Itr i (j - i).toNat) H1)) := fun σ H R q => by
    refine (rd_len (rd_bnd (m := evEs C es) (rel2 := relI X.K X.mg) (f := fun _ xs => opt (rngD xs)) q)).imp ?_
    rintro vs H1 ⟨hv, FF, env, st, ds, W, μ, S, E, r, p⟩
    refine ⟨hv, ?_⟩
    unfold rngD at p
    split at p
    · rename_i n
      obtain ⟨z, rfl, rz⟩ := rpas1 r
      obtain rfl : z = .int n := rz
      split at p
      · rename_i cc
        obtain ⟨c1, c2⟩ := Bool.and_eq_true_iff.mp cc
        have c1 := of_decide_eq_true c1
        have c2 := of_decide_eq_true c2
        refine .inl ⟨n, rfl, by omega, by omega, pt_ret (b := Itr 0 n.toNat) S p ?_⟩
        have := ItR.range (K := X.K) (mg := X.mg) (W := W) (lo := 0) (n := n.toNat)
        show ItR X.K X.mg W _ _
        simpa using this
      · exact False.elim p
    · rename_i n1 n2
      obtain ⟨z, w, rfl, rz, rw'⟩ := rpas2 r
      obtain rfl : z = .int n1 := rz
      obtain rfl : w = .int n2 := rw'
      split at p
      · rename_i cc
        obtain ⟨cc1, cc2⟩ := Bool.and_eq_true_iff.mp cc
        obtain ⟨c1, c2⟩ := Bool.and_eq_true_iff.mp cc1
        obtain ⟨c3, c4⟩ := Bool.and_eq_true_iff.mp cc2
        have c1 := of_decide_eq_true c1
        have c2 := of_decide_eq_true c2
        have c3 := of_decide_eq_true c3
        have c4 := of_decide_eq_true c4
        exact .inr ⟨n1, n2, rfl, ⟨by omega, by omega, by omega, by omega⟩, pt_ret (b := Itr n1 (n2 - n1).toNat) S p ItR.range⟩
      · exact False.elim p
    · exact False.elim p
  cases xs with
  | nil => simp at hl
  | cons y ys =>
    cases ys with
    | nil =>
      have hy : nst y = true := by cases es <;> simp [mtEs] at hm; exact hm.1.2
      refine (pi_range1 g1 hb ih (split1 hy)).imp ?_
      intro σ H R q
      exact rd.imp (fin σ H R q) fun vs H1 ⟨hv, h⟩ => by
        rcases h with h | ⟨i, j, e, _⟩
        · exact h
        · rw [e, hlen] at hv
          simp at hv
    | cons z zs =>
      cases zs with
      | cons _ _ => simp at hl
      | nil =>
        have hyz : nst y = true ∧ nst z = true := by
          cases es with
          | nil => simp [mtEs] at hm
          | cons _ r =>
            cases r <;> simp [mtEs] at hm
            exact ⟨hm.1.2, hm.2.1.2⟩
        refine (pi_range2 g1 hb ih (by rw [nst_each hyz.1, nst_each hyz.2]; rfl) (split1 hyz.2)).imp ?_
        intro σ H R q
        exact rd.imp (fin σ H R q) fun vs H1 ⟨hv, h⟩ => by
          rcases h with ⟨j, e, _⟩ | h
          · rw [e, hlen] at hv
            simp at hv
          · exact h
end
end Ev
end
section
set_option Elab.async false
set_option linter.all false
set_option maxRecDepth 100000
set_option maxHeartbeats 1000003
namespace Ev
open PySem PySem.Spec PyProof.Rows L2
/-! ### a list or a tuple that is walked -/
/-- the iterator's new object -/
def itO (tp : Bool) (a : Addr) : Obj := if tp then { cls := .type "tuple_iterator", data := .fields #[.ref a, .int 0 0] } else { cls := .type "list_iterator", data := .fields #[.ref a, .int 0 0] }
def seqAt (tp : Bool) (h : Heap) (a : Addr) (its : Array Value) : Prop := if tp then h.IsTuple a its else h.IsList a its
def curAt (tp : Bool) (h : Heap) (it a : Addr) (i : Nat) : Prop := if tp then h.IsTupleIter it a i else h.IsListIter it a i
theorem curAt.obj {tp : Bool} {h : Heap} {it a : Addr} {i : Nat} (c : curAt tp h it a i) : ∃ o, h.get? it = some o ∧ ∀ v, o.data ≠ .cell v := by
  cases tp with
  | true =>
    obtain ⟨o, e, _, d⟩ := c
    exact ⟨o, e, fun v q => by rw [d] at q; cases q⟩
  | false =>
    obtain ⟨o, e, _, d⟩ := c
    exact ⟨o, e, fun v q => by rw [d] at q; cases q⟩
theorem curAt.at {tp : Bool} {h h' : Heap} {it a : Addr} {i : Nat} (c : curAt tp h it a i) (k : ∀ o, h.get? it = some o → h'.get? it = some o) : curAt tp h' it a i := by
  cases tp with
  | true =>
    obtain ⟨o, e, x, d⟩ := c
    exact ⟨o, k o e, x, d⟩
  | false =>
    obtain ⟨o, e, x, d⟩ := c
    exact ⟨o, k o e, x, d⟩
theorem curAt.ne {tp tp' : Bool} {h : Heap} {it a : Addr} {i : Nat} {its : Array Value} (c : curAt tp h it a i) (q : seqAt tp' h a its) : a ≠ it := by
  intro e
  subst e
  cases tp <;> cases tp' <;> obtain ⟨o, e, x, d⟩ := c <;> first
    | (obtain ⟨o', e', x', d'⟩ := q
       rw [e] at e'
       cases e'
       rw [x] at x'
       injection x' with z
       exact absurd z (by decide))
theorem draws_of {prog : Program} {w : World} {A : Around} (hh : A.handled = none) (tp : Bool) (it a : Addr) (hne : a ≠ it) (its : Array Value) :
    Draws prog w A it [it, a] its.size (fun i v => its[i]? = some v) (fun i h => curAt tp h it a i ∧ seqAt tp h a its) := by
  cases tp with
  | true => exact Draws.tuple hh it a hne its
  | false => exact Draws.list hh it a hne its
theorem begins_of (tp : Bool) (a : Addr) (its : Array Value) : Begins (.ref a) (itO tp a) fun h => seqAt tp h a its := by
  cases tp with
  | true => exact begins_tuple a its
  | false => exact begins_list a its
theorem cur_new {tp : Bool} {h : Heap} {it a : Addr} (e : h.get? it = some (itO tp a)) : curAt tp h it a 0 := by
  cases tp with
  | true => exact ⟨_, e, rfl, rfl⟩
  | false => exact ⟨_, e, rfl, rfl⟩
theorem nat_ne (x y : Nat) (h : ¬ x = y) : @Ne Addr x y := h
/-- a list or a tuple, as it is read -/
def SqA (K : PySem.W.Frag) (tp : Bool) (H : Hp) (a : Addr) (xs : List V) : Prop := if tp then SqT K H a xs else SqL K H a xs
theorem sqA_at {X : Cx} {pins : List (Addr × Obj)} {σ : L2.St} {H : Hp} {s : Shared} {tp : Bool} {a : Addr} {xs : List V} (I : Inv X pins σ H s) (h : SqA X.K tp H a xs) : ∃ its, Vals xs its ∧ seqAt tp s.heap a its.toArray := by
  cases tp with
  | true =>
    obtain ⟨its, rv, p, _⟩ := I.tuple h
    exact ⟨its, rv, p⟩
  | false =>
    obtain ⟨its, rv, p, _⟩ := I.list h
    exact ⟨its, rv, p.isList⟩

/-! ### enumerate -/
set_option maxHeartbeats 2000003 in
theorem meets_enum1 {v : Value} {o : Obj} {Hh : Heap → Prop} (B : Begins v o Hh) :
    Meets (Builtin.«enumerate.__new__» ⟨[.type "enumerate", v], []⟩) (fun _ R s => Hh s.heap ∧
      R (.ok (.ret (.ref (s.heap.push o).objs.size))) { s with heap := (s.heap.push o).push { cls := .type "enumerate", data := .fields #[.none, .bool false, .ref s.heap.objs.size, rawInt 0, .none, .none] } }) :=
  .of_wp fun prog w A R s h => by
    obtain ⟨hp, g, d, tk, os⟩ := s; obtain ⟨h1, h⟩ := h
    have hsub := sub_enumerate
    have q1 : ∀ {A' : Around} {E : Value → Shared → Prop} {Q : Value → Shared → Prop}, Q (.ref hp.objs.size) ⟨hp.push o, g, d, tk, os⟩ → wpAny (model prog w) A' (pyIter v) Q E ⟨hp, g, d, tk, os⟩ :=
      fun q => B.iter prog w _ _ ⟨hp, g, d, tk, os⟩ _ h1 q
    wp_walk using q1
    refine wpAny_stack_any fun st => wpAny_pure ?_
    split
    · rename_i c _ _ _ _ _
      cases (c == Value.type "enumerate")
      · wp_walk using q1
        exact ⟨_, rfl, h⟩
      · wp_walk using q1
        exact ⟨_, rfl, h⟩
    · wp_walk using q1
      exact ⟨_, rfl, h⟩
theorem enum1_begins {prog : Program} {w : World} {A : Around} {E : Value → Shared → Prop} {s : Shared} {v : Value} {o : Obj} {Hh : Heap → Prop} {Q : Value → Shared → Prop} (B : Begins v o Hh) (h1 : Hh s.heap)
    (h : ∀ h', IsEnum h' (s.heap.objs.size + 1) s.heap.objs.size 0 .none → h'.get? s.heap.objs.size = some o → h'.objs.size = s.heap.objs.size + 2 →
      (∀ b o, s.heap.get? b = some o → h'.get? b = some o) → Q (.ref (s.heap.objs.size + 1)) { s with heap := h' }) :
    wpAny (model prog w) A (call (.type "enumerate") [v]) Q E s := by
  refine callType_new F.called_enumerate (by decide) (F.typeCall_enumerate_1 _) (F.newCall_enumerate_1 _) (fun obj => F.args_object_init_2 obj _) F.entry_enumerate_new
    (meets_enum1 B) ⟨h1, ?_⟩
  have hz : (s.heap.push o).objs.size = s.heap.objs.size + 1 := Heap.size_push ..
  show _ ∧ _
  rw [hz]
  have he : IsEnum ((s.heap.push o).push { cls := .type "enumerate", data := .fields #[.none, .bool false, .ref s.heap.objs.size, rawInt 0, .none, .none] }) (s.heap.objs.size + 1) s.heap.objs.size 0 .none := by
    have := Heap.get?_push_size (s.heap.push o) (o := { cls := .type "enumerate", data := .fields #[.none, .bool false, .ref s.heap.objs.size, rawInt 0, .none, .none] }) rfl
    rw [hz] at this; exact this
  refine ⟨⟨_, he, rfl⟩, h _ he (Heap.get?_push_of_some _ (Heap.get?_push_size _ B.free)) (by rw [Heap.size_push, hz]) fun b o x => Heap.get?_push_of_some _ (Heap.get?_push_of_some _ x)⟩
/-- the thing at a, each item in a new pair -/
def IteG (K : PySem.W.Frag) (tp : Bool) (a : Addr) : L2.It :=
  ⟨fun i H => ∃ (xs : List V) (x : V), SqA K tp H a xs ∧ xs[i]? = some x, fun i H v H' => ∃ T x, v = .ref T ∧ H T = none ∧ H' = upd H T (.tup [.int (i : Nat), x]) ∧ ∀ xs, SqA K tp H a xs → xs[i]? = some x, fun i H => ∃ xs : List V, SqA K tp H a xs ∧ xs.length = i⟩
theorem seq_inj {tp : Bool} {h : Heap} {a : Addr} {x y : Array Value} (p : seqAt tp h a x) (q : seqAt tp h a y) : x = y := by
  cases tp <;> obtain ⟨o, e, r⟩ := p <;> obtain ⟨o', e', r'⟩ := q <;> rw [e] at e' <;> cases e' <;>
    obtain ⟨_, n, d⟩ := r <;> obtain ⟨_, n', d'⟩ := r' <;> rw [d] at d' <;> cases d' <;> rfl
theorem vals_inj : ∀ {xs ys : List V} {us : List Value}, Vals xs us → Vals ys us → xs = ys
  | _, _, _, .nil, .nil => rfl
  | _, _, _, .cons r t, .cons r' t' => by rw [RelV.inj r r', vals_inj t t']
theorem sq_inj {X : Cx} {pins : List (Addr × Obj)} {σ : L2.St} {H : Hp} {s : Shared} {tp : Bool} {a : Addr} {xs ys : List V} (I : Inv X pins σ H s) (h : SqA X.K tp H a xs) (h' : SqA X.K tp H a ys) : xs = ys := by
  obtain ⟨u, r, p⟩ := sqA_at I h
  obtain ⟨u', r', p'⟩ := sqA_at I h'
  have e := seq_inj p p'
  have e2 : u = u' := by simpa using e
  subst e2
  exact vals_inj r r'
theorem turn_enumG {P : Program} {w : World} {K : PySem.W.Frag} {elts : List Expr} {kk : Nat} {tpos : Pos} (tp : Bool) (a e it : Addr) :
    Turn P w K (.Tuple elts kk tpos) (IteG K tp a) [e, it] e (fun i h => (∃ old, IsEnum h e it ((i : Nat) : Int) old) ∧ curAt tp h it a i ∧ e ≠ it ∧ e ≠ a) where
  mem := by simp
  obj := fun i h st b hb => by
    obtain ⟨⟨old, he⟩, hc, _⟩ := st
    have e' : b = e ∨ b = it := by simpa using hb
    rcases e' with z | z
    · rw [z]; exact ⟨_, he, fun v q => nomatch q⟩
    · rw [z]; exact hc.obj
  keep := fun i h h' st k => let ⟨⟨old, he⟩, hi, hne⟩ := st; ⟨⟨old, k e (by simp) _ he⟩, hi.at fun o q => k it (by simp) o q, hne⟩
  item := by
    intro X hP hw hK hc i pins s σ H E I hf st hg
    subst hP hw hK
    obtain ⟨⟨old, he⟩, hit, hne, hea⟩ := st
    obtain ⟨xs, x, hq, hx⟩ := hg
    obtain ⟨its, rv, p⟩ := sqA_at I hq
    obtain ⟨u, hu, ru⟩ := rv.get hx
    have hel : e < s.heap.objs.size := Heap.lt_size he
    have hil : it < s.heap.objs.size := by obtain ⟨_, q, _⟩ := hit.obj; exact Heap.lt_size q
    have hlt : i < its.toArray.size := by
      have := (List.getElem?_eq_some_iff.mp hu).1
      simpa using this
    refine wpAny_pyNext_enum_itemC (draws_of (A := X.A.in1) (I.ok.hd hc) tp it a (hit.ne p) its.toArray) he ⟨hit, p⟩ hlt hne (by simp [hne, hea]) fun x' h' tk hP' ho hs' hT hsz hk => ?_
    have ex : x' = u := by
      have hu' : its.toArray[i]? = some u := by simpa using hu
      rw [hu'] at hP'
      exact (Option.some.inj hP').symm
    subst ex
    refine ⟨_, rfl, wpAny_letOwnedTupleGo_enum (s := { s with heap := h', toks := tk + 1 }) ho fun h'' he' sb => ?_⟩
    have hT2 : h''.get? s.heap.objs.size = some { cls := .type "tuple", data := .seq #[.int i tk, x'] } := (sb.2 _ (Nat.ne_of_gt hel)).trans hT
    have new : ObjOk X.prog X.w (upd H s.heap.objs.size (.tup [.int (i : Nat), x])) h'' s.heap.objs.size (.tup [.int (i : Nat), x]) :=
      ⟨by show 2 ≤ sizeLine; decide, [.int i tk, x'], .cons ⟨_, rfl⟩ (.cons ru .nil), ⟨_, hT2, rfl, _, rfl⟩⟩
    have I1 : Inv X pins σ (upd H s.heap.objs.size (.tup [.int (i : Nat), x])) { s with heap := h'', toks := tk + 1 } :=
      I.turnedNew (ch := [e, it]) (fun b ob hb q => (sb.2 b (fun z => hb (by simp [z]))).trans (hk b ob (fun z => hb (by simp [z])) (fun z => hb (by simp [z])) q)) hf (Nat.le_refl _) new
    refine ⟨.ref s.heap.objs.size, _, I1, rfl, ⟨_, x, rfl, I.hok.fresh (Nat.le_refl _), rfl, fun ys hy => by rw [sq_inj I hy hq]; exact hx⟩, ⟨⟨x', ?_⟩, hs'.1.at fun o q => (sb.2 it (Ne.symm hne)).trans q, hne, hea⟩, fun b hb => ?_⟩
    · have e1 : ((i + 1 : Nat) : Int) = (i : Int) + 1 := by omega
      rw [e1]; exact he'
    · have hb' : b < s.heap.objs.size := by
        have e' : b = e ∨ b = it := by simpa using hb
        rcases e' with z | z
        · rw [z]; exact hel
        · rw [z]; exact hil
      rw [upd_ne (Nat.ne_of_lt hb')]
      exact (hf b hb).1
  done := by
    intro X hP hw hK hc i pins s σ H E I hf st hg
    subst hP hw hK
    obtain ⟨⟨old, he⟩, hit, hne, hea⟩ := st
    obtain ⟨xs, hq, hx⟩ := hg
    obtain ⟨its, rv, p⟩ := sqA_at I hq
    obtain ⟨f0, f1, f2, f3, f4, f5⟩ := hf it (by simp)
    have hl : i = its.toArray.size := by rw [List.size_toArray, ← rv.length, hx]
    subst hl
    exact wpAny_pyNext_enum_endD (draws_of (A := X.A.in1) (I.ok.hd hc) tp it a (hit.ne p) its.toArray) he ⟨hit, p⟩ fun h' eb => ⟨rfl, I.turned (t' := s.toks) (fun b o hb q => eb b o hb q) f0 f1 f3 f4 f5⟩
  self := fun A i s Q E st h => let ⟨⟨_, he⟩, _⟩ := st; wpAny_pyIter_enum he h
def iEnumG (K : PySem.W.Frag) (ta : TA) : TI := fun σ H R => ta σ H fun vs H1 => ∃ tp a xs, vs = [.ref a] ∧ SqA K tp H1 a xs ∧ R (IteG K tp a) H1
theorem sq_lt {X : Cx} {pins : List (Addr × Obj)} {σ : L2.St} {H : Hp} {s : Shared} {tp : Bool} {a : Addr} {xs : List V} (I : Inv X pins σ H s) (h : SqA X.K tp H a xs) : @LT.lt Nat _ a s.heap.objs.size := by
  obtain ⟨its, rv, p⟩ := sqA_at I h
  cases tp <;> (obtain ⟨o, e, _⟩ := p; exact Heap.lt_size e)
theorem pi_enumG {X : Cx} {e : Expr} {ta : TA} {p pos tpos : Pos} {elts : List Expr} {kk : Nat} (hg : L2.Gl X "enumerate") (hm : X.mg "enumerate" = none) (ha : PA X [e] ta) (hs : starEach [e] X.env = [(false, eval e X.env)]) :
    PI X (.Tuple elts kk tpos) (.Call (.Name "enumerate" p) [e] [] pos) (iEnumG X.K ta) := by
  refine ⟨fun pins s σ H R I h => ?_⟩
  refine Call_ (ld_blt I hg hm boot_enumerate (PyProof.Rows.callWith_type1 (thn (ha.run pos pins s σ H _ I h) fun us s1 ⟨vs, H1, I1, r1, q1⟩ => ?_) hs rfl))
  obtain ⟨tp, a, xs, rfl, hq, q⟩ := q1
  cases r1 with
  | cons r rr =>
    cases rr
    cases r
    obtain ⟨its, rv, p'⟩ := sqA_at I1 hq
    have hal := sq_lt I1 hq
    have hne : s1.heap.objs.size + 1 ≠ a := nat_ne _ _ (by omega)
    refine enum1_begins (begins_of tp a its.toArray) p' fun h' he hit hsz hk => wpAny_pyIter_enum he ?_
    have I2 : Inv X pins σ H1 { s1 with heap := h' } := I1.kept (t' := s1.toks) hk
    refine ⟨s1.heap.objs.size + 1, [s1.heap.objs.size + 1, s1.heap.objs.size], _, _, H1, rfl, I2, turn_enumG tp a (s1.heap.objs.size + 1) s1.heap.objs.size, ⟨⟨.none, he⟩, cur_new hit, Nat.succ_ne_self _, hne⟩, fun b hb => ?_, q⟩
    have e' : b = s1.heap.objs.size + 1 ∨ b = s1.heap.objs.size := by simpa using hb
    have hle : s1.heap.objs.size ≤ b := by
      rcases e' with z | z
      · rw [z]; exact Nat.le_add_right _ _
      · rw [z]; exact Nat.le_refl _
    exact I1.fpOk hle (I1.hok.fresh hle)

/-! ### zip of two -/
def sep2 (z TI TO i1 i2 a b : Addr) : Prop := z ≠ TI ∧ z ≠ TO ∧ TI ≠ TO ∧ TI ≠ i1 ∧ TI ≠ i2 ∧ TO ≠ i1 ∧ TO ≠ i2 ∧ z ≠ i1 ∧ z ≠ i2 ∧ i1 ≠ i2 ∧ z ≠ a ∧ z ≠ b ∧ TO ≠ a ∧ TO ≠ b ∧ i1 ≠ b ∧ i2 ≠ a
theorem sep2_zip {z TI TO i1 i2 a b : Addr} (d : sep2 z TI TO i1 i2 a b) : ZipSep2 z TI TO i1 i2 [i1, a] [i2, b] := by
  obtain ⟨d1, d2, d3, d4, d5, d6, d7, d8, d9, d10, d11, d12, d13, d14, d15, d16⟩ := d
  exact ⟨Ne.symm d1, Ne.symm d2, d3, d4, by simp, by simp [d8, d11], by simp [d6, d13], d5, by simp, by simp [d9, d12], by simp [d7, d14], by simp [d10, d15], by simp [Ne.symm d10, d16]⟩
def ItzG (K : PySem.W.Frag) (t1 t2 : Bool) (a b : Addr) : L2.It :=
  ⟨fun i H => ∃ (xs ys : List V) (x y : V), SqA K t1 H a xs ∧ SqA K t2 H b ys ∧ xs[i]? = some x ∧ ys[i]? = some y,
    fun i H v H' => ∃ T x y, v = .ref T ∧ H T = none ∧ H' = upd H T (.tup [x, y]) ∧ (∀ xs, SqA K t1 H a xs → xs[i]? = some x) ∧ ∀ ys, SqA K t2 H b ys → ys[i]? = some y,
    fun i H => ∃ xs ys : List V, SqA K t1 H a xs ∧ SqA K t2 H b ys ∧ i = min xs.length ys.length⟩
theorem turn_zipG {P : Program} {w : World} {K : PySem.W.Frag} {elts : List Expr} {kk : Nat} {tpos : Pos} {t1 t2 : Bool} {a b z TI TO i1 i2 : Addr} (D : sep2 z TI TO i1 i2 a b) :
    Turn P w K (.Tuple elts kk tpos) (ItzG K t1 t2 a b) [z, TI, TO, i1, i2] z (fun i h => IsZip h z TI TO .none ∧ IsTupOf2 h TI (.ref i1) (.ref i2) ∧ (∃ x y, IsTupOf2 h TO x y) ∧ curAt t1 h i1 a i ∧ curAt t2 h i2 b i) where
  mem := by simp
  obj := fun i h st c hc => by
    obtain ⟨hz, hTI, ⟨x, y, hTO⟩, c1, c2⟩ := st
    have e' : c = z ∨ c = TI ∨ c = TO ∨ c = i1 ∨ c = i2 := by simpa using hc
    rcases e' with q | q | q | q | q
    · rw [q]; exact ⟨_, hz, fun v q => nomatch q⟩
    · rw [q]; exact ⟨_, hTI, fun v q => nomatch q⟩
    · rw [q]; exact ⟨_, hTO, fun v q => nomatch q⟩
    · rw [q]; exact c1.obj
    · rw [q]; exact c2.obj
  keep := fun i h h' st k => by
    obtain ⟨hz, hTI, ⟨x, y, hTO⟩, h1, h2⟩ := st
    exact ⟨k z (by simp) _ hz, k TI (by simp) _ hTI, ⟨x, y, k TO (by simp) _ hTO⟩, h1.at fun o q => k i1 (by simp) o q, h2.at fun o q => k i2 (by simp) o q⟩
  item := by
    intro X hP hw hK hc i pins s σ H E I hf st hg
    subst hP hw hK
    have S2 := sep2_zip D
    obtain ⟨d1, d2, d3, d4, d5, d6, d7, d8, d9, d10, d11, d12, d13, d14, d15, d16⟩ := D
    obtain ⟨hz, hTI, ⟨x0, y0, hTO⟩, h1, h2⟩ := st
    obtain ⟨xs, ys, x, y, hqx, hqy, hx, hy⟩ := hg
    obtain ⟨its, rv, p⟩ := sqA_at I hqx
    obtain ⟨its2, rv2, p2⟩ := sqA_at I hqy
    obtain ⟨u, hu, ru⟩ := rv.get hx
    obtain ⟨u2, hu2, ru2⟩ := rv2.get hy
    have hzl : z < s.heap.objs.size := Heap.lt_size hz
    have hlt : i < its.toArray.size := by simpa using (List.getElem?_eq_some_iff.mp hu).1
    have hlt2 : i < its2.toArray.size := by simpa using (List.getElem?_eq_some_iff.mp hu2).1
    refine wpAny_pyNext_zipD2_item S2 (draws_of (A := X.A.in1) (I.ok.hd hc) t1 i1 a (h1.ne p) its.toArray) (draws_of (A := X.A.in1) (I.ok.hd hc) t2 i2 b (h2.ne p2) its2.toArray) hz hTI hTO ⟨h1, p⟩ ⟨h2, p2⟩ hlt hlt2 fun x1 x2 h' tk hP1 hP2 z' TO' s1' s2' hT hsz hk => ?_
    have e1 : x1 = u := by
      have hu' : its.toArray[i]? = some u := by simpa using hu
      rw [hu'] at hP1
      exact (Option.some.inj hP1).symm
    have e2 : x2 = u2 := by
      have hu' : its2.toArray[i]? = some u2 := by simpa using hu2
      rw [hu'] at hP2
      exact (Option.some.inj hP2).symm
    subst e1 e2
    refine ⟨_, rfl, wpAny_letOwnedTupleGo_zip (s := { s with heap := h', toks := tk }) z' fun h'' z'' sb => ?_⟩
    have hT2 : h''.get? s.heap.objs.size = some { cls := .type "tuple", data := .seq #[x1, x2] } := (sb.2 _ (Nat.ne_of_gt hzl)).trans hT
    have new : ObjOk X.prog X.w (upd H s.heap.objs.size (.tup [x, y])) h'' s.heap.objs.size (.tup [x, y]) :=
      ⟨by show 2 ≤ sizeLine; decide, [x1, x2], .cons ru (.cons ru2 .nil), ⟨_, hT2, rfl, _, rfl⟩⟩
    have I1 : Inv X pins σ (upd H s.heap.objs.size (.tup [x, y])) { s with heap := h'', toks := tk } :=
      I.turnedNew (t' := tk) (ch := [z, TI, TO, i1, i2]) (fun c o hb q => (sb.2 c (fun q' => hb (by simp [q']))).trans (hk c o (fun q' => hb (by simp [q'])) (fun q' => hb (by simp [q'])) (fun q' => hb (by simp [q'])) (fun q' => hb (by simp [q'])) q)) hf (Nat.le_refl _) new
    refine ⟨.ref s.heap.objs.size, _, I1, rfl, ⟨_, x, y, rfl, I.hok.fresh (Nat.le_refl _), rfl, fun l hl => by rw [sq_inj I hl hqx]; exact hx, fun l hl => by rw [sq_inj I hl hqy]; exact hy⟩, ⟨z'', ?_, ⟨x1, x2, ?_⟩, ?_, ?_⟩, fun c hcm => ?_⟩
    · exact (sb.2 _ (Ne.symm d1)).trans (hk _ _ (Ne.symm d1) d3 d4 d5 hTI)
    · exact (sb.2 _ (Ne.symm d2)).trans TO'
    · exact s1'.1.at fun o q => (sb.2 _ (Ne.symm d8)).trans q
    · exact s2'.1.at fun o q => (sb.2 _ (Ne.symm d9)).trans q
    · have hlt : c < s.heap.objs.size := by
        have e' : c = z ∨ c = TI ∨ c = TO ∨ c = i1 ∨ c = i2 := by simpa using hcm
        rcases e' with q | q | q | q | q
        · rw [q]; exact hzl
        · rw [q]; exact Heap.lt_size hTI
        · rw [q]; exact Heap.lt_size hTO
        · rw [q]; obtain ⟨_, e1, _⟩ := h1.obj; exact Heap.lt_size e1
        · rw [q]; obtain ⟨_, e1, _⟩ := h2.obj; exact Heap.lt_size e1
      rw [upd_ne (Nat.ne_of_lt hlt)]
      exact (hf c hcm).1
  done := by
    intro X hP hw hK hc i pins s σ H E I hf st hg
    subst hP hw hK
    obtain ⟨hz, hTI, ⟨x0, y0, hTO⟩, h1, h2⟩ := st
    obtain ⟨xs, ys, hqx, hqy, hend⟩ := hg
    obtain ⟨its, rv, p⟩ := sqA_at I hqx
    obtain ⟨its2, rv2, p2⟩ := sqA_at I hqy
    have l1 := rv.length
    have l2 := rv2.length
    refine wpAny_pyNext_zipD2_end (sep2_zip D) (draws_of (A := X.A.in1) (I.ok.hd hc) t1 i1 a (h1.ne p) its.toArray) (draws_of (A := X.A.in1) (I.ok.hd hc) t2 i2 b (h2.ne p2) its2.toArray) hz hTI hTO ⟨h1, p⟩ ⟨h2, p2⟩ (by rw [List.size_toArray]; omega) (by rw [List.size_toArray]; omega) (by rw [List.size_toArray, List.size_toArray]; omega)
      fun h' tk hk => ⟨rfl, I.turnedL (t' := tk) (ch := [z, TI, TO, i1, i2]) (fun c o hb q => hk c o (fun q' => hb (by simp [q'])) (fun q' => hb (by simp [q'])) (fun q' => hb (by simp [q'])) (fun q' => hb (by simp [q'])) q) hf⟩
  self := fun A i s Q E st h => wpAny_pyIter_zip st.1 h
def iZipG (K : PySem.W.Frag) (ta : TA) : TI := fun σ H R => ta σ H fun vs H1 => ∃ t1 t2 a b xs ys, vs = [.ref a, .ref b] ∧ SqA K t1 H1 a xs ∧ SqA K t2 H1 b ys ∧ R (ItzG K t1 t2 a b) H1
theorem pi_zipG {X : Cx} {e e2 : Expr} {ta : TA} {p pos tpos : Pos} {elts : List Expr} {kk : Nat} (hg : L2.Gl X "zip") (hm : X.mg "zip" = none) (ha : PA X [e, e2] ta)
    (hs : starEach [e, e2] X.env = (false, eval e X.env) :: starEach [e2] X.env) (hpl : (backTo pos (starEach [e2] X.env)).any (·.1) = false) :
    PI X (.Tuple elts kk tpos) (.Call (.Name "zip" p) [e, e2] [] pos) (iZipG X.K ta) := by
  refine ⟨fun pins s σ H R I h => ?_⟩
  refine Call_ (ld_blt I hg hm PyProof.Rows.boot_zip (PyProof.Rows.callWith_type1 (thn (ha.run pos pins s σ H _ I h) fun us s1 ⟨vs, H1, I1, r1, q1⟩ => ?_) hs hpl))
  obtain ⟨t1, t2, a, b, xs, ys, rfl, hqx, hqy, q⟩ := q1
  cases r1 with
  | cons r rr =>
    cases rr with
    | cons r' rr =>
      cases rr
      cases r
      cases r'
      obtain ⟨its, rv, p1⟩ := sqA_at I1 hqx
      obtain ⟨its2, rv2, p2⟩ := sqA_at I1 hqy
      have la := sq_lt I1 hqx
      have lb := sq_lt I1 hqy
      refine zip_begins2 (begins_of t1 a its.toArray) (begins_of t2 b its2.toArray) p1 p2 fun h' hz hTI hTO g1 g2 hsz hk => wpAny_pyIter_zip hz ?_
      have I2 : Inv X pins σ H1 { s1 with heap := h' } := I1.kept (t' := s1.toks) hk
      have D : sep2 (s1.heap.objs.size + 4) (s1.heap.objs.size + 2) (s1.heap.objs.size + 3) s1.heap.objs.size (s1.heap.objs.size + 1) a b := by
        refine ⟨?_, ?_, ?_, ?_, ?_, ?_, ?_, ?_, ?_, ?_, ?_, ?_, ?_, ?_, ?_, ?_⟩ <;> exact nat_ne _ _ (by omega)
      refine ⟨_, [s1.heap.objs.size + 4, s1.heap.objs.size + 2, s1.heap.objs.size + 3, s1.heap.objs.size, s1.heap.objs.size + 1], _, _, H1, rfl, I2, turn_zipG D, ⟨hz, hTI, ⟨_, _, hTO⟩, cur_new g1, cur_new g2⟩, fun c hc => ?_, q⟩
      have hle : s1.heap.objs.size ≤ c := by
        have e' : c = s1.heap.objs.size + 4 ∨ c = s1.heap.objs.size + 2 ∨ c = s1.heap.objs.size + 3 ∨ c = s1.heap.objs.size ∨ c = s1.heap.objs.size + 1 := by simpa using hc
        rcases e' with z | z | z | z | z <;> rw [z] <;> first | exact Nat.le_add_right _ _ | exact Nat.le_refl _
      exact I1.fpOk hle (I1.hok.fresh hle)
end Ev
end
section
set_option Elab.async false
set_option linter.all false
set_option maxRecDepth 100000
set_option maxHeartbeats 1000003
namespace Ev
open PySem PySem.Spec PyProof.Rows L2
variable [Gh]
theorem sqA_sub {K : PySem.W.Frag} {G H : Hp} {tp : Bool} {a : Addr} {xs : List V} (s : SubG G H) (h : SqA K tp G a xs) : SqA K tp H a xs := by
  cases tp with
  | true => exact sqT_sub s h
  | false => exact sqL_sub s h
theorem sqA_of {K : PySem.W.Frag} {H : Hp} {a : Addr} {xs : List V} (h : SqT K H a xs ∨ SqL K H a xs) : ∃ tp, SqA K tp H a xs := by
  rcases h with h | h
  · exact ⟨true, h⟩
  · exact ⟨false, h⟩
theorem pair_rp {K : PySem.W.Frag} {mg : Str → Option Value} {FF : List (Addr × HO)} {H : Hp} {W : Vw} {μ : List Addr} {st : Sto} {T : Addr} {xs : List V} {ds : List D} (S : SA K mg FF H W μ st) (hT : H T = none) (r : Rps K mg W ds xs) :
    ∃ W', SA K mg FF (upd H T (.tup xs)) W' μ st ∧ Ex2 W μ W' μ ∧ Rp K mg W' (.tup ds) (.ref T) := by
  have le := LeW.put (o := .tup xs) (S.gnone hT)
  refine ⟨_, S.put hT, ⟨le, [], by simp⟩, ?_⟩
  simp only [Rp]
  exact ⟨T, xs, rfl, SqT.of upd_same, r.mono le⟩
theorem ItR.enum {K : PySem.W.Frag} {mg : Str → Option Value} {W : Vw} {tp : Bool} {a : Addr} {vs : List V} {ds : List D} (h : SqA K tp W.G a vs) (r : Rps K mg W ds vs) : ItR K mg W ((ds.zipIdx).map fun p => D.tup [.int p.2, p.1]) (IteG K tp a) := by
  intro i FF H W' μ st le S
  have hs := sqA_sub (le.g.trans S.sub) h
  refine ⟨fun hl => ⟨vs, hs, by rw [← r.length]; simpa using hl.symm⟩, fun d hd => ?_⟩
  rw [List.getElem?_map] at hd
  obtain ⟨p, hp, rfl⟩ := Option.map_eq_some_iff.mp hd
  rw [List.getElem?_zipIdx] at hp
  obtain ⟨d, hd', rfl⟩ := Option.map_eq_some_iff.mp hp
  obtain ⟨v, hv, rv⟩ := r.get hd'
  refine ⟨⟨vs, v, hs, hv⟩, ?_⟩
  rintro x H' ⟨T, y, rfl, hT, rfl, hy⟩
  have := hy vs hs
  rw [hv] at this
  cases this
  exact pair_rp S hT (Rps.cons (by simp only [Rp]; rw [Nat.zero_add]) (Rps.cons (rv.mono le) Rps.nil))
theorem ItR.zip {K : PySem.W.Frag} {mg : Str → Option Value} {W : Vw} {t1 t2 : Bool} {a b : Addr} {vs us : List V} {ds es : List D} (h : SqA K t1 W.G a vs) (r : Rps K mg W ds vs) (h2 : SqA K t2 W.G b us) (r2 : Rps K mg W es us) :
    ItR K mg W ((ds.zip es).map fun p => D.tup [p.1, p.2]) (ItzG K t1 t2 a b) := by
  intro i FF H W' μ st le S
  have hs := sqA_sub (le.g.trans S.sub) h
  have hs2 := sqA_sub (le.g.trans S.sub) h2
  refine ⟨fun hl => ⟨vs, us, hs, hs2, by rw [← r.length, ← r2.length]; simpa using hl⟩, fun d hd => ?_⟩
  rw [List.getElem?_map] at hd
  obtain ⟨p, hp, rfl⟩ := Option.map_eq_some_iff.mp hd
  obtain ⟨hp1, hp2⟩ := List.getElem?_zip_eq_some.mp hp
  obtain ⟨v, hv, rv⟩ := r.get hp1
  obtain ⟨u, hu, ru⟩ := r2.get hp2
  refine ⟨⟨vs, us, v, u, hs, hs2, hv, hu⟩, ?_⟩
  rintro x H' ⟨T, y, z, rfl, hT, rfl, hy, hz⟩
  have e1 := hy vs hs
  rw [hv] at e1
  cases e1
  have e2 := hz us hs2
  rw [hu] at e2
  cases e2
  exact pair_rp S hT (Rps.cons (rv.mono le) (Rps.cons (ru.mono le) Rps.nil))
section
variable {C : Cx'} {m : MC} {X : Cx} {WE : WX} {k : Nat}
theorem i_enum (c : CtxOk C m X WE k) {x : Ev.E} {y : Expr} {p pos tpos : Pos} {elts : List Expr} {kk : Nat} (hg : gloB m "enumerate" "enumerate" = true) (hn : nst y = true) (ha : PE X y (RdE C X WE x)) :
    PI X (.Tuple elts kk tpos) (.Call (.Name "enumerate" p) [y] [] pos) (rd X.K X.mg WE (relI X.K X.mg) (evIt C (.enum x))) := by
  obtain ⟨_, g1, g2, g3⟩ := c.gl hg
  refine (pi_enumG g1 (c.bn _ (by decide)) (pa_cons ha pa_nil (nst_each hn _ _)) (by rw [nst_each hn]; rfl)).imp ?_
  intro σ H R q
  refine (rd_bnd (m := evE C x) (rel2 := relI X.K X.mg) (f := fun _ d => bnd (frzD d) fun d => opt ((itemsO d).map fun xs => (xs.zipIdx).map fun p => D.tup [.int p.2, p.1])) q).imp ?_
  rintro v H1 ⟨FF, env, st, d, W, μ, S, E, r1, p⟩
  obtain ⟨d', st', W', S', x', rp, p⟩ := frz_pt S r1 p
  cases e : itemsO d' with
  | none => rw [e] at p; exact False.elim p
  | some ds =>
    rw [e] at p
    obtain ⟨t, vs, rfl, hq, r2⟩ := items_rp (H := W'.G) (SubG.refl _) (Rpt.of (SubG.refl _) rp) e
    obtain ⟨tp, hq⟩ := sqA_of hq
    exact ⟨tp, t, vs, rfl, sqA_sub S'.sub hq, pt_ret (b := IteG X.K tp t) S' p (ItR.enum hq r2)⟩
/-- a changing list that is enumerated in a comprehension -/
theorem ItH.enum {K : PySem.W.Frag} {mg : Str → Option Value} {W : Vw} {a : Addr} {vs : List V} {ds : List D} (r : Rps K mg W ds vs) : ItH K mg W (some (a, vs)) ((ds.zipIdx).map fun p => D.tup [.int p.2, p.1]) (IteG K false a) := by
  intro i FF H W' μ st le hm S
  have hs : SqA K false H a vs := SqL.of (S.ff _ (hm _ rfl)).1
  refine ⟨fun hl => ⟨vs, hs, by rw [← r.length]; simpa using hl.symm⟩, fun d hd => ?_⟩
  rw [List.getElem?_map] at hd
  obtain ⟨p, hp, rfl⟩ := Option.map_eq_some_iff.mp hd
  rw [List.getElem?_zipIdx] at hp
  obtain ⟨d, hd', rfl⟩ := Option.map_eq_some_iff.mp hp
  obtain ⟨v, hv, rv⟩ := r.get hd'
  refine ⟨⟨vs, v, hs, hv⟩, ?_⟩
  rintro x H' ⟨T, y, rfl, hT, rfl, hy⟩
  have := hy vs hs
  rw [hv] at this
  cases this
  exact pair_rp S hT (Rps.cons (by simp only [Rp]; rw [Nat.zero_add]) (Rps.cons (rv.mono le) Rps.nil))
theorem hidD_cases (d : D) (st : Sto) : (∃ k xs, d = .mu k ∧ st[k]? = some (.lst xs) ∧ hidD d st = .ok (.lst xs, some (k, xs)) (st.set k (.env [] []))) ∨ hidD d st = bnd (frzD d) (fun x => ret (x, none)) st := by
  cases d with
  | mu k =>
    by_cases h : ∃ xs, st[k]? = some (.lst xs)
    · obtain ⟨xs, h⟩ := h
      exact .inl ⟨k, xs, rfl, h, by simp only [hidD, h]⟩
    · refine .inr ?_
      unfold hidD
      dsimp only
      split
      · rename_i xs e
        exact absurd ⟨xs, e⟩ h
      · rfl
  | _ => exact .inr rfl
theorem i_enumQ (c : CtxOk C m X WE k) {x : Ev.E} {y : Expr} {p pos tpos : Pos} {elts : List Expr} {kk : Nat} (hg : gloB m "enumerate" "enumerate" = true) (hn : nst y = true) (ha : PE X y (RdE C X WE x)) :
    PI X (.Tuple elts kk tpos) (.Call (.Name "enumerate" p) [y] [] pos) (tQ X.K X.mg WE (evItQ C (.enum x))) := by
  obtain ⟨_, g1, g2, g3⟩ := c.gl hg
  refine (pi_enumG g1 (c.bn _ (by decide)) (pa_cons ha pa_nil (nst_each hn _ _)) (by rw [nst_each hn]; rfl)).imp ?_
  rintro σ H R ⟨FF, env, st, W, μ, S, E, p⟩
  refine ⟨FF, env, st, W, μ, S, E, ?_⟩
  have p0 : PtQ X.K X.mg WE FF σ W μ (bnd (evE C x env) (fun d => bnd (hidD d) fun p => opt ((itemsO p.1).map fun xs => ((xs.zipIdx).map fun p => D.tup [.int p.2, p.1], p.2))) st) R := p
  clear p
  cases e : evE C x env st with
  | no =>
    rw [bnd_noE e] at p0
    exact p0
  | exc y s1 =>
    rw [bnd_excE e] at p0
    exact p0
  | ok d st1 =>
    rw [bnd_ok e] at p0
    intro v H1 W1 μ1 S1 x1 r1
    rcases hidD_cases d st1 with ⟨k, xs, rfl, ek, eh⟩ | eh
    · rw [bnd_ok eh] at p0
      obtain ⟨a, vs, ea, rv, hf, S2⟩ := S1.hid ek
      obtain ⟨a', ea', rfl⟩ := r1
      rw [ea] at ea'
      cases ea'
      exact ⟨false, a, vs, rfl, SqL.of (S2.ff _ (List.mem_cons_self ..)).1, p0 _ _ _ _ (some (a, vs)) _ ⟨rfl, hf, ea, rv⟩ S2 x1 (ItH.enum rv)⟩
    · cases ez : frzD d st1 with
      | no =>
        rw [bnd_noE (eh.trans (bnd_noE ez))] at p0
        exact p0.elim
      | exc y s1 => exact (frz_ex ez).elim
      | ok d' st2 =>
        rw [bnd_ok (eh.trans (bnd_ok ez))] at p0
        obtain ⟨W2, S2, x2, rp⟩ := frz_ok S1 r1 ez
        cases ei : itemsO d' with
        | none =>
          dsimp only at p0
          rw [ei] at p0
          exact p0.elim
        | some ds =>
          dsimp only at p0
          rw [ei] at p0
          obtain ⟨t, vs, rfl, hq, r2⟩ := items_rp (H := W2.G) (SubG.refl _) (Rpt.of (SubG.refl _) rp) ei
          obtain ⟨tp, hq⟩ := sqA_of hq
          refine ⟨tp, t, vs, rfl, sqA_sub S2.sub hq, p0 _ _ _ _ none _ rfl S2 (x1.trans x2) fun i FF H W μ st le _ S => ItR.enum hq r2 i FF H W μ st le S⟩
theorem i_zip (c : CtxOk C m X WE k) {es : Es} {xs : List Expr} {p pos tpos : Pos} {elts : List Expr} {kk : Nat} (hg : gloB m "zip" "zip" = true) (hm : mtEs m es xs = true) (hl : xs.length = 2) (ih : PA X xs (RdA C X WE es)) :
    PI X (.Tuple elts kk tpos) (.Call (.Name "zip" p) xs [] pos) (rd X.K X.mg WE (relI X.K X.mg) (evIt C (.zip es))) := by
  obtain ⟨_, g1, g2, g3⟩ := c.gl hg
  match xs, hl with
  | [y, z], _ =>
    have hyz : nst y = true ∧ nst z = true := by
      cases es with
      | nil => simp [mtEs] at hm
      | cons _ r =>
        cases r <;> simp [mtEs] at hm
        exact ⟨hm.1.2, hm.2.1.2⟩
    refine (pi_zipG g1 (c.bn _ (by decide)) ih (nst_each hyz.1 _ _) (by rw [nst_each hyz.2]; rfl)).imp ?_
    intro σ H R q
    refine (rd_len (rd_bnd (m := evEs C es) (rel2 := relI X.K X.mg) (f := fun _ xs => bnd (frzDs xs) fun xs => opt ((itemsOs xs).map fun l => (zipD l).map D.tup)) q)).imp ?_
    rintro vs H1 ⟨hv, FF, env, st, ds, W, μ, S, E, r1, p⟩
    obtain ⟨ds', st', W', S', x', rp, p⟩ := frzs_pt S r1 p
    rw [mtEs_len hm] at hv
    have hd : ds'.length = 2 := by rw [rp.length, hv]; rfl
    match ds', hd with
    | [d1, d2], _ =>
      simp only [Rps] at rp
      obtain ⟨v1, _, rfl, q1, v2, _, rfl, q2, rfl⟩ := rp
      cases e1 : itemsO d1 with
      | none => simp only [itemsOs, e1] at p; exact False.elim p
      | some l1 =>
        cases e2 : itemsO d2 with
        | none => simp only [itemsOs, e1, e2] at p; exact False.elim p
        | some l2 =>
          simp only [itemsOs, e1, e2] at p
          obtain ⟨t1, u1, rfl, h1, rr1⟩ := items_rp (H := W'.G) (SubG.refl _) (Rpt.of (SubG.refl _) q1) e1
          obtain ⟨t2, u2, rfl, h2, rr2⟩ := items_rp (H := W'.G) (SubG.refl _) (Rpt.of (SubG.refl _) q2) e2
          obtain ⟨p1, h1⟩ := sqA_of h1
          obtain ⟨p2, h2⟩ := sqA_of h2
          refine ⟨p1, p2, t1, t2, u1, u2, rfl, sqA_sub S'.sub h1, sqA_sub S'.sub h2, pt_ret (b := ItzG X.K p1 p2 t1 t2) S' p ?_⟩
          have e : (zipD [l1, l2]).map D.tup = (l1.zip l2).map fun p => D.tup [p.1, p.2] := by
            simp only [zipD]
            rw [List.map_map]
            have e3 : l1.zip (l2.map ([·])) = (l1.zip l2).map (fun p => (p.1, [p.2])) := by
              rw [List.zip_map_right]
              rfl
            rw [e3, List.map_map]
            rfl
          show ItR X.K X.mg W' _ _
          simp only [Option.map_some]
          rw [e]
          exact ItR.zip h1 rr1 h2 rr2
end
end Ev
end
section
set_option Elab.async false
set_option linter.all false
set_option maxRecDepth 100000
set_option maxHeartbeats 1000003
namespace Ev
open PySem PySem.Spec PyProof.Rows L2
variable [Gh]
section
variable {C : Cx'} {m : MC} {X : Cx} {WE : WX} {k : Nat}
theorem s_cal (c : CtxOk C m X WE k) {i : Nat} {x : Str} {es : Es} {xs : List Expr} {p pos : Pos} (hv : varB m i x = true) (hm : mtEs m es xs = true) (ih : PA X xs (RdA C X WE es)) : PE X (.Call (.Name x p) xs [] pos) (RdE C X WE (.cal i es)) := by
  cases xs with
  | nil =>
    have ee : es = .nil := by cases es <;> first | rfl | (simp [mtEs] at hm)
    subst ee
    refine (pe_cal0 c hv).imp ?_
    rintro σ H Q ⟨FF, env, st, W, μ, S, E, p⟩
    simp only [evE] at p
    cases e : env[i]? with
    | none => rw [e] at p; exact False.elim p
    | some o =>
      cases o with
      | none => rw [e] at p; exact False.elim p
      | some d =>
        rw [e] at p
        obtain ⟨v, hs, r⟩ := E.at_ i d e
        cases d <;> first | exact False.elim p | skip
        · rename_i f
          have r' := r
          simp only [Rpa, Rp] at r'
          obtain ⟨a, rfl, h1, h2⟩ := r'
          exact ⟨a, hs, .inl ⟨f, h1, h2, FF, st, W, μ, [], S, rfl, Pt.x _ _ p⟩⟩
        · rename_i l
          have r' := r
          simp only [Rpa, Rp] at r'
          obtain ⟨a, o, c', oc, rfl, _⟩ := id r'
          exact ⟨a, hs, .inr ⟨l, FF, st, W, μ, S, r, Pt.x _ _ p⟩⟩
  | cons y ys =>
    refine (pe_calG c hv ih hm (by simp)).imp ?_
    rintro σ H Q ⟨FF, env, st, W, μ, S, E, p⟩
    simp only [evE] at p
    cases e : env[i]? with
    | none => rw [e] at p; exact False.elim p
    | some o =>
      cases o with
      | none => rw [e] at p; exact False.elim p
      | some d =>
        rw [e] at p
        obtain ⟨v, hs, r⟩ := E.at_ i d e
        cases d <;> first | exact False.elim p | skip
        · rename_i f
          have r' := r
          simp only [Rpa, Rp] at r'
          obtain ⟨a, rfl, h1, h2⟩ := r'
          refine ⟨a, f, hs, h1, h2, FF, env, st, W, μ, S, E, (pt_bnd (rel := relL X.K X.mg) p).imp ?_⟩
          rintro vs H1 ⟨ds, st', W', μ', S', x', r', p'⟩
          exact ⟨FF, st', W', μ', ds, S', r', Pt.x _ _ p'⟩
        · cases es with
          | nil => simp [mtEs] at hm
          | cons _ _ => exact False.elim p
end
end Ev
end
section
set_option Elab.async false
set_option linter.all false
set_option maxRecDepth 100000
set_option maxHeartbeats 1000003
namespace Ev
open PySem PySem.Spec PyProof.Rows L2
/-! ### cells that are known for a while -/
abbrev CFs := List (Addr × Obj)
def addC (H : Hp) : CFs → Hp
  | [] => H
  | p :: r => upd (addC H r) p.1 (cellO p.1 p.2)
def delC (H : Hp) : CFs → Hp
  | [] => H
  | p :: r => L2.del (delC H r) p.1
theorem cellO_ext {a : Addr} {o : Obj} : cellO a o = .ext fun h => h.get? a = some o := rfl
section
variable {H H' : Hp} {cf : CFs} {a b : Addr} {o : Obj}
theorem addC_ne : ∀ {cf : CFs}, b ∉ cf.map (·.1) → addC H cf b = H b
  | [], _ => rfl
  | p :: r, h => by
    simp only [List.map_cons, List.mem_cons, not_or] at h
    show upd (addC H r) p.1 _ b = _
    rw [upd_ne h.1]
    exact addC_ne h.2
theorem addC_in : ∀ {cf : CFs}, (cf.map (·.1)).Nodup → ∀ p ∈ cf, addC H cf p.1 = some (cellO p.1 p.2)
  | [], _, _, h => nomatch h
  | q :: r, nd, p, h => by
    obtain ⟨n1, n2⟩ := List.nodup_cons.mp nd
    rcases List.mem_cons.mp h with e | h
    · subst e
      exact upd_same
    · have ne : p.1 ≠ q.1 := fun e => n1 (by show q.1 ∈ _; rw [← e]; exact List.mem_map_of_mem h)
      show upd (addC H r) q.1 _ p.1 = _
      rw [upd_ne ne]
      exact addC_in n2 p h
theorem delC_in : ∀ {cf : CFs}, b ∈ cf.map (·.1) → delC H cf b = none
  | [], h => nomatch h
  | p :: r, h => by
    show L2.del (delC H r) p.1 b = none
    by_cases e : b = p.1
    · rw [e, del_same]
    · rw [del_ne e]
      exact delC_in ((List.mem_cons.mp h).resolve_left e)
theorem delC_ne : ∀ {cf : CFs}, b ∉ cf.map (·.1) → delC H cf b = H b
  | [], _ => rfl
  | p :: r, h => by
    simp only [List.map_cons, List.mem_cons, not_or] at h
    show L2.del (delC H r) p.1 b = _
    rw [del_ne h.1]
    exact delC_ne h.2
theorem addC_none (h : addC H cf b = none) : H b = none ∧ b ∉ cf.map (·.1) := by
  have n : b ∉ cf.map (·.1) := fun hm => by
    induction cf with
    | nil => nomatch hm
    | cons p r ih =>
      have h' : upd (addC H r) p.1 (cellO p.1 p.2) b = none := h
      by_cases e : b = p.1
      · rw [e, upd_same] at h'
        cases h'
      · rw [upd_ne e] at h'
        exact ih h' ((List.mem_cons.mp hm).resolve_left e)
  exact ⟨by rw [addC_ne n] at h; exact h, n⟩
theorem not_own {x : Addr} : cellO a o ≠ .own x := fun z => by
  rw [cellO_ext] at z
  cases z
theorem not_tup {xs : List V} : cellO a o ≠ .tup xs := fun z => by
  rw [cellO_ext] at z
  cases z
theorem not_frz {o' : Obj} {u : HO} : cellO a o ≠ .frz o' u := fun z => by
  rw [cellO_ext] at z
  cases z
theorem not_tbl {ps : Array Value} : cellO a o ≠ .tbl ps := fun z => by
  rw [cellO_ext] at z
  cases z
theorem not_lst {ps : List V} : cellO a o ≠ .lst ps := fun z => by
  rw [cellO_ext] at z
  cases z
theorem not_dK {ps : List (Key × V)} : cellO a o ≠ .dK ps := fun z => by
  rw [cellO_ext] at z
  cases z
theorem not_ins {C dx : Addr} {fs : List (Str × V)} : cellO a o ≠ .ins C dx fs := fun z => by
  rw [cellO_ext] at z
  cases z
theorem out_of (h : H b = some v) (hc : ∀ p ∈ cf, H p.1 = none) : b ∉ cf.map (·.1) := fun hm => by
  obtain ⟨p, hp, e⟩ := List.mem_map.mp hm
  rw [← e, hc p hp] at h
  cases h
theorem out_in {u : HO} (h : H b = some u) (hc : ∀ p ∈ cf, H p.1 = some (cellO p.1 p.2)) (hu : ∀ a o, cellO a o ≠ u) : b ∉ cf.map (·.1) := fun hm => by
  obtain ⟨p, hp, e⟩ := List.mem_map.mp hm
  rw [← e, hc p hp] at h
  exact hu _ _ (Option.some.inj h)
end
section
variable {P : Program} {w : World} {H H' : Hp} {h h' B : Heap} {cf : CFs} {fs : List Addr}
theorem cell_ok {a : Addr} {o : Obj} (e : h.get? a = some o) : ObjOk P w H h a (cellO a o) := ⟨e, ⟨o, e⟩, fun h1 h2 z k => k _ z⟩
theorem cell_at {a : Addr} {o : Obj} (x : ObjOk P w H h a (cellO a o)) : h.get? a = some o := by
  have y : ObjOk P w H h a (.ext fun h => h.get? a = some o) := x
  exact y.1
theorem mem_fst {b : Addr} (hb : b ∈ cf.map (·.1)) : ∃ p ∈ cf, p.1 = b := List.mem_map.mp hb
/-- cells get known -/
theorem hok_add (k : HOk P w H h) (nd : (cf.map (·.1)).Nodup) (hc : ∀ p ∈ cf, H p.1 = none ∧ h.get? p.1 = some p.2) : HOk P w (addC H cf) h := by
  intro b o e
  by_cases hb : b ∈ cf.map (·.1)
  · obtain ⟨p, hp, rfl⟩ := mem_fst hb
    rw [addC_in nd p hp] at e
    cases e
    exact cell_ok (hc p hp).2
  · rw [addC_ne hb] at e
    have out : ∀ {c : Addr} {u : HO}, H c = some u → addC H cf c = some u := fun {c u} hu => by
      rw [addC_ne (out_of hu fun p hp => (hc p hp).1)]
      exact hu
    exact (k b o e).stay (fun c v _ z => z) (fun c z => out z) fun c xs z => out z
/-- .. and are forgotten -/
theorem hok_del (k : HOk P w H h) (hc : ∀ p ∈ cf, H p.1 = some (cellO p.1 p.2)) : HOk P w (delC H cf) h := by
  intro b o e
  have hb : b ∉ cf.map (·.1) := fun z => by
    rw [delC_in z] at e
    cases e
  rw [delC_ne hb] at e
  exact (k b o e).stay (fun c v _ z => z) (fun c z => by rw [delC_ne (out_in z hc fun _ _ => not_own)]; exact z) fun c xs z => by rw [delC_ne (out_in z hc fun _ _ => not_tup)]; exact z
/-- a call made with cells known, seen without -/
theorem un_cut (u : Un fs [] (addC H cf) H' h h') (k : HOk P w H' h') (nd : (cf.map (·.1)).Nodup) (hc : ∀ p ∈ cf, H p.1 = none ∧ h.get? p.1 = some p.2) (hc' : ∀ p ∈ cf, H' p.1 = some (cellO p.1 p.2)) : Un fs [] H (delC H' cf) h h' ∧ HOk P w (delC H' cf) h' := by
  have at2 : ∀ p ∈ cf, h'.get? p.1 = some p.2 := fun p hp => cell_at (k _ _ (hc' p hp))
  have same : ∀ {b : Addr} {o : Obj}, b ∈ cf.map (·.1) → h.get? b = some o → h'.get? b = some o := fun {b o} hb e => by
    obtain ⟨p, hp, rfl⟩ := mem_fst hb
    rw [(hc p hp).2] at e
    rw [at2 p hp]
    exact e
  have up : ∀ {b : Addr}, H b = none → b ∉ cf.map (·.1) → addC H cf b = none := fun {b} n hb => by rw [addC_ne hb]; exact n
  have keep : ∀ {b : Addr} {v : HO}, H b = some v → addC H cf b = some v ∧ b ∉ cf.map (·.1) := fun {b v} e => by
    have n := out_of e fun p hp => (hc p hp).1
    exact ⟨by rw [addC_ne n]; exact e, n⟩
  refine ⟨⟨fun b o e n hf hx => ?_, fun b o e n hf hx => ?_, fun b o e n hx => ?_, fun b o e hx => u.there b o e hx, fun b xs e => ?_, fun b o v e => ?_, fun b ps e => ?_⟩, hok_del k hc'⟩
  · by_cases hb : b ∈ cf.map (·.1)
    · exact same hb e
    · exact u.keep b o e (up n hb) hf hx
  · by_cases hb : b ∈ cf.map (·.1)
    · exact ⟨o.slots, same hb e⟩
    · exact u.slot b o e (up n hb) hf hx
  · by_cases hb : b ∈ cf.map (·.1)
    · exact delC_in hb
    · rw [delC_ne hb]
      exact u.free b o e (up n hb) hx
  · obtain ⟨e1, nb⟩ := keep e
    rw [delC_ne nb]
    exact u.tups b xs e1
  · obtain ⟨e1, nb⟩ := keep e
    rw [delC_ne nb]
    exact u.frzs b o v e1
  · obtain ⟨e1, nb⟩ := keep e
    rw [delC_ne nb]
    exact u.tbls b ps e1
section
variable (nd : (cf.map (·.1)).Nodup) (hc : ∀ p ∈ cf, H p.1 = some (cellO p.1 p.2)) (k : HOk P w H h) (nf : ∀ p ∈ cf, p.1 ∉ fs)
include nd hc k nf
/-- a call made without them, seen with them known -/
theorem un_add (u : Un fs [] (delC H cf) H' h h') (k' : HOk P w H' h') : (∀ p ∈ cf, H' p.1 = none) ∧ Un fs [] H (addC H' cf) h h' ∧ HOk P w (addC H' cf) h' := by
  have at1 : ∀ p ∈ cf, h.get? p.1 = some p.2 := fun p hp => cell_at (k _ _ (hc p hp))
  have dn : ∀ p ∈ cf, delC H cf p.1 = none := fun p hp => delC_in (List.mem_map_of_mem hp)
  have at2 : ∀ p ∈ cf, h'.get? p.1 = some p.2 := fun p hp => u.keep _ _ (at1 p hp) (dn p hp) (nf p hp) (by simp)
  have n2 : ∀ p ∈ cf, H' p.1 = none := fun p hp => u.free _ _ (at1 p hp) (dn p hp) (by simp)
  have low : ∀ {b : Addr}, H b = none → delC H cf b = none ∧ b ∉ cf.map (·.1) := fun {b} n => by
    have nb : b ∉ cf.map (·.1) := fun hm => by
      obtain ⟨p, hp, rfl⟩ := mem_fst hm
      rw [hc p hp] at n
      cases n
    exact ⟨by rw [delC_ne nb]; exact n, nb⟩
  have keep : ∀ {b : Addr} {v : HO}, H b = some v → (∀ a o, cellO a o ≠ v) → delC H cf b = some v ∧ b ∉ cf.map (·.1) := fun {b v} e ne => by
    have nb := out_in e hc ne
    exact ⟨by rw [delC_ne nb]; exact e, nb⟩
  refine ⟨n2, ⟨fun b o e n hf hx => u.keep b o e (low n).1 hf hx, fun b o e n hf hx => u.slot b o e (low n).1 hf hx, fun b o e n hx => ?_, fun b o e hx => u.there b o e hx, fun b xs e => ?_, fun b o v e => ?_, fun b ps e => ?_⟩, hok_add k' nd fun p hp => ⟨n2 p hp, at2 p hp⟩⟩
  · rw [addC_ne (low n).2]
    exact u.free b o e (low n).1 hx
  · obtain ⟨e1, nb⟩ := keep e fun _ _ => not_tup
    rw [addC_ne nb]
    exact u.tups b xs e1
  · obtain ⟨e1, nb⟩ := keep e fun _ _ => not_frz
    rw [addC_ne nb]
    exact u.frzs b o v e1
  · obtain ⟨e1, nb⟩ := keep e fun _ _ => not_tbl
    rw [addC_ne nb]
    exact u.tbls b ps e1
/-- .. with an exception let out -/
theorem ub_add (u : UB fs (delC H cf) H' h B h') (k' : HOk P w H' B) : (∀ p ∈ cf, H' p.1 = none ∧ B.get? p.1 = some p.2) ∧ UB fs H (addC H' cf) h B h' ∧ HOk P w (addC H' cf) B := by
  have at1 : ∀ p ∈ cf, h.get? p.1 = some p.2 := fun p hp => cell_at (k _ _ (hc p hp))
  have dn : ∀ p ∈ cf, delC H cf p.1 = none := fun p hp => delC_in (List.mem_map_of_mem hp)
  have at2 : ∀ p ∈ cf, B.get? p.1 = some p.2 := fun p hp => u.keep _ _ (at1 p hp) (dn p hp) (nf p hp)
  have n2 : ∀ p ∈ cf, H' p.1 = none := fun p hp => u.free _ _ (at1 p hp) (dn p hp)
  have low : ∀ {b : Addr}, H b = none → delC H cf b = none ∧ b ∉ cf.map (·.1) := fun {b} n => by
    have nb : b ∉ cf.map (·.1) := fun hm => by
      obtain ⟨p, hp, rfl⟩ := mem_fst hm
      rw [hc p hp] at n
      cases n
    exact ⟨by rw [delC_ne nb]; exact n, nb⟩
  have keep : ∀ {b : Addr} {v : HO}, H b = some v → (∀ a o, cellO a o ≠ v) → delC H cf b = some v ∧ b ∉ cf.map (·.1) := fun {b v} e ne => by
    have nb := out_in e hc ne
    exact ⟨by rw [delC_ne nb]; exact e, nb⟩
  refine ⟨fun p hp => ⟨n2 p hp, at2 p hp⟩, ⟨fun b o e n hf => u.keep b o e (low n).1 hf, u.slot, fun b o e n => ?_, u.there, fun b xs e => ?_, fun b o v e => ?_, fun b ps e => ?_⟩, hok_add k' nd fun p hp => ⟨n2 p hp, at2 p hp⟩⟩
  · rw [addC_ne (low n).2]
    exact u.free b o e (low n).1
  · obtain ⟨e1, nb⟩ := keep e fun _ _ => not_tup
    rw [addC_ne nb]
    exact u.tups b xs e1
  · obtain ⟨e1, nb⟩ := keep e fun _ _ => not_frz
    rw [addC_ne nb]
    exact u.frzs b o v e1
  · obtain ⟨e1, nb⟩ := keep e fun _ _ => not_tbl
    rw [addC_ne nb]
    exact u.tbls b ps e1
end
end
section
variable {P : Program} {w : World} {K : PySem.W.Frag} {mg : Str → Option Value} {base : Heap} {A : Around} {outer : List Env} {s : Shared} {H : Hp} {cf : CFs}
theorem env0_add (e : Env0 P w K mg base A outer s H) (nd : (cf.map (·.1)).Nodup) (hc : ∀ p ∈ cf, H p.1 = none ∧ s.heap.get? p.1 = some p.2) (hb : ∀ p ∈ cf, base.get? p.1 = none) (nf : ∀ p ∈ cf, p.1 ∉ frs outer) : Env0 P w K mg base A outer s (addC H cf) := by
  refine ⟨e.frames, e.mod, fun b o q => ⟨(e.bs b o q).1, ?_⟩, e.bsz, e.funs, fun b hm => ?_, hok_add e.hok nd hc, e.bare⟩
  · rw [addC_ne fun hm => ?_]
    · exact (e.bs b o q).2
    · obtain ⟨p, hp, rfl⟩ := mem_fst hm
      rw [hb p hp] at q
      cases q
  · rw [addC_ne fun hm' => ?_]
    · exact e.frf b hm
    · obtain ⟨p, hp, rfl⟩ := mem_fst hm'
      exact nf p hp hm
theorem env0_del (e : Env0 P w K mg base A outer s H) (hc : ∀ p ∈ cf, H p.1 = some (cellO p.1 p.2)) : Env0 P w K mg base A outer s (delC H cf) := by
  have low : ∀ {b : Addr}, H b = none → delC H cf b = none := fun {b} n => by
    by_cases hb : b ∈ cf.map (·.1)
    · exact delC_in hb
    · rw [delC_ne hb]
      exact n
  exact ⟨e.frames, e.mod, fun b o q => ⟨(e.bs b o q).1, low (e.bs b o q).2⟩, e.bsz, e.funs, fun b hm => low (e.frf b hm), hok_del e.hok hc, e.bare⟩
end
end Ev
end
section
set_option Elab.async false
set_option linter.all false
set_option maxRecDepth 100000
set_option maxHeartbeats 4000003
namespace Ev
open PySem PySem.Spec PyProof.Rows L2
variable [Gh]
section
variable {K : PySem.W.Frag} {mg : Str → Option Value} {FF : List (Addr × HO)} {H : Hp} {W : Vw} {μ : List Addr} {st : Sto} {cf : CFs}
def Vw.cut (W : Vw) (cf : CFs) : Vw := ⟨delC W.G cf⟩
def Vw.add (W : Vw) (cf : CFs) : Vw := ⟨addC W.G cf⟩
section
variable (hG : ∀ p ∈ cf, W.G p.1 = some (cellO p.1 p.2)) (hS : ∀ p ∈ cf, ∃ i, Gh.S i = some p.1)
include hG
theorem cut_at {a : Addr} {u : HO} (h : W.G a = some u) (n : ∀ b o, cellO b o ≠ u) : (W.cut cf).G a = some u := by
  show delC W.G cf a = some u
  rw [delC_ne (out_in h hG n)]
  exact h
theorem cut_sqT {a : Addr} {xs : List V} (h : SqT K W.G a xs) : SqT K (W.cut cf).G a xs := by
  rcases h with (h | ⟨o, h⟩) | h
  · exact .inl (.inl (cut_at hG h fun _ _ => not_tup))
  · exact .inl (.inr ⟨o, cut_at hG h fun _ _ => not_frz⟩)
  · exact .inr h
theorem cut_sqL {a : Addr} {xs : List V} (h : SqL K W.G a xs) : SqL K (W.cut cf).G a xs := by
  rcases h with (h | ⟨o, h⟩) | h
  · exact .inl (.inl (cut_at hG h fun _ _ => not_lst))
  · exact .inl (.inr ⟨o, cut_at hG h fun _ _ => not_frz⟩)
  · exact .inr h
include hS
mutual
theorem Rp.cut : ∀ {d : D} {v : V}, Rp K mg W d v → Rp K mg (W.cut cf) d v
  | .non, _, r => by simp only [Rp] at r ⊢; exact r
  | .bl _, _, r => by simp only [Rp] at r ⊢; exact r
  | .int _, _, r => by simp only [Rp] at r ⊢; exact r
  | .str _, _, r => by simp only [Rp] at r ⊢; exact r
  | .tup ds, _, r => by
    simp only [Rp] at r ⊢
    obtain ⟨a, vs, e, q, r⟩ := r
    exact ⟨a, vs, e, cut_sqT hG q, Rps.cut r⟩
  | .lst ds, _, r => by
    simp only [Rp] at r ⊢
    obtain ⟨a, vs, e, q, r⟩ := r
    exact ⟨a, vs, e, cut_at hG q fun _ _ => not_lst, Rps.cut r⟩
  | .scr ns, _, r => by
    simp only [Rp] at r ⊢
    obtain ⟨a, e, q⟩ := r
    exact ⟨a, e, cut_sqL hG q⟩
  | .dct ks ds, _, r => by
    simp only [Rp] at r ⊢
    obtain ⟨a, vs, e, q, l, n, r⟩ := r
    exact ⟨a, vs, e, cut_at hG q fun _ _ => not_dK, l, n, Rps.cut r⟩
  | .obj c fs ds, _, r => by
    simp only [Rp] at r ⊢
    obtain ⟨a, C, dx, vs, e, m, k, q, l, r⟩ := r
    exact ⟨a, C, dx, vs, e, m, k, cut_at hG q fun _ _ => not_ins, l, Rps.cut r⟩
  | .fn f, _, r => by simp only [Rp] at r ⊢; exact r
  | .clo l, _, r => by
    simp only [Rp] at r ⊢
    obtain ⟨f, o, c, oc, e, p, g, gc, n⟩ := r
    have out : ∀ {b : Addr}, (∀ i a, Gh.S i = some a → a ≠ b) → b ∉ cf.map (·.1) := fun {b} h hm => by
      obtain ⟨p, hp, e⟩ := mem_fst hm
      obtain ⟨i, hi⟩ := hS p hp
      exact h i _ hi e
    exact ⟨f, o, c, oc, e, p, (by show delC W.G cf f = _; rw [delC_ne (out fun i a h => (n i a h).1)]; exact g), (by show delC W.G cf c = _; rw [delC_ne (out fun i a h => (n i a h).2)]; exact gc), n⟩
  | .mu _, _, r => by simp only [Rp] at r
theorem Rps.cut : ∀ {ds : List D} {vs : List V}, Rps K mg W ds vs → Rps K mg (W.cut cf) ds vs
  | [], _, r => by simp only [Rps] at r ⊢; exact r
  | d :: ds, _, r => by
    simp only [Rps] at r ⊢
    obtain ⟨v, q, e, r1, r2⟩ := r
    exact ⟨v, q, e, Rp.cut r1, Rps.cut r2⟩
end
theorem SA.cuts (S : SA K mg FF H W μ st) (ne : ∀ (k : Nat) is xs, st[k]? = some (.env is xs) → is = []) : SA K mg FF (delC H cf) (W.cut cf) μ st := by
  have hH : ∀ p ∈ cf, H p.1 = some (cellO p.1 p.2) := fun p hp => S.sub _ _ (hG p hp)
  have low : ∀ {b : Addr}, W.G b = none → (W.cut cf).G b = none := fun {b} n => by
    show delC W.G cf b = none
    by_cases hb : b ∈ cf.map (·.1)
    · exact delC_in hb
    · rw [delC_ne hb]
      exact n
  have up : ∀ {b : Addr} {u : HO}, H b = some u → (∀ a o, cellO a o ≠ u) → delC H cf b = some u := fun {b u} e n => by
    rw [delC_ne (out_in e hH n)]
    exact e
  refine ⟨fun b u e => ?_, S.len, fun k o e => ?_, S.inj, fun p hp => ?_⟩
  · have e' : delC W.G cf b = some u := e
    have nb : b ∉ cf.map (·.1) := fun hm => by
      rw [delC_in hm] at e'
      cases e'
    rw [delC_ne nb] at e' ⊢
    exact S.sub b u e'
  · have r := S.sto k o e
    cases o with
    | lst ds =>
      obtain ⟨a, vs, ea, h1, h2, h3⟩ := r
      exact ⟨a, vs, ea, up h1 fun _ _ => not_lst, low h2, Rps.cut hG hS h3⟩
    | dct ks ds =>
      obtain ⟨a, vs, ea, h1, h2, h3, h4, h5⟩ := r
      exact ⟨a, vs, ea, up h1 fun _ _ => not_dK, low h2, h3, h4, Rps.cut hG hS h5⟩
    | fr d =>
      obtain ⟨a, ea, h1⟩ := r
      exact ⟨a, ea, Rp.cut hG hS h1⟩
    | env is xs =>
      have := ne k is xs e
      subst this
      have r' : EnvR K mg W [] xs := r
      cases xs with
      | nil => exact True.intro
      | cons _ _ => exact r'.elim
  · obtain ⟨h1, h2, h3⟩ := S.ff p hp
    have nb : p.1 ∉ cf.map (·.1) := fun hm => by
      obtain ⟨q, hq, e⟩ := mem_fst hm
      have := hG q hq
      rw [e, h2] at this
      cases this
    exact ⟨by rw [delC_ne nb]; exact h1, low h2, h3⟩
end
theorem SA.adds (S : SA K mg FF H W μ st) : ∀ {cf : CFs}, (cf.map (·.1)).Nodup → (∀ p ∈ cf, H p.1 = none) → SA K mg FF (addC H cf) (W.add cf) μ st
  | [], _, _ => S
  | p :: r, nd, hc => by
    obtain ⟨n1, n2⟩ := List.nodup_cons.mp nd
    have ih := S.adds (cf := r) n2 fun q hq => hc q (List.mem_cons_of_mem _ hq)
    exact ih.put (by rw [addC_ne n1]; exact hc p List.mem_cons_self)
theorem LeW.add (nd : (cf.map (·.1)).Nodup) (hc : ∀ p ∈ cf, W.G p.1 = none) : LeW W (W.add cf) := ⟨fun a o h => by
  show addC W.G cf a = some o
  rw [addC_ne (out_of h hc)]
  exact h⟩
/-- a frame's record is exchanged -/
theorem SA.setE {j : Nat} {o mo : MO} (S : SA K mg FF H W μ st) (hj : st[j]? = some o) (hl : o.live = false) (hm : MoR K mg W H μ[j]? mo) (hl' : mo.live = false) : SA K mg FF H W μ (st.set j mo) := by
  have bk : ∀ {k : Nat} {u : MO}, (st.set j mo)[k]? = some u → u.live = true → st[k]? = some u := fun {k u} e l => by
    rcases get_set e with ⟨rfl, rfl, _⟩ | ⟨_, e⟩
    · rw [hl'] at l
      cases l
    · exact e
  refine ⟨S.sub, by rw [List.length_set]; exact S.len, fun k u e => ?_, fun i k u u' a e1 e2 l1 l2 m1 m2 => S.inj i k u u' a (bk e1 l1) (bk e2 l2) l1 l2 m1 m2, fun p hp => ?_⟩
  · rcases get_set e with ⟨rfl, rfl, _⟩ | ⟨_, e⟩
    · exact hm
    · exact S.sto k u e
  · obtain ⟨h1, h2, h3⟩ := S.ff p hp
    exact ⟨h1, h2, fun k u e l => h3 k u (bk e l) l⟩
theorem noEnv_get {s : Sto} (h : noEnv s = true) {k : Nat} {is : List Nat} {xs : List D} (e : s[k]? = some (.env is xs)) : is = [] := by
  unfold noEnv at h
  have := List.all_eq_true.mp h _ (List.mem_of_getElem? e)
  cases is with
  | nil => rfl
  | cons _ _ => simp at this
theorem envS_get : ∀ {s : Sto} {j : Nat} {is : List Nat} {xs : List D}, envS s = some (j, is, xs) → s[j]? = some (.env is xs) ∧ ∀ (k : Nat) is' xs', k ≠ j → s[k]? = some (.env is' xs') → is' = []
  | [], _, _, _, h => by simp [envS] at h
  | o :: s, j, is, xs, h => by
    have tail : (∀ i r ys, o ≠ .env (i :: r) ys) → (envS s).map (fun q => (q.1 + 1, q.2)) = some (j, is, xs) → (o :: s)[j]? = some (.env is xs) ∧ ∀ (k : Nat) is' xs', k ≠ j → (o :: s)[k]? = some (.env is' xs') → is' = [] := fun no hm => by
      obtain ⟨⟨j', q⟩, e1, e2⟩ := Option.map_eq_some_iff.mp hm
      cases e2
      obtain ⟨h1, h2⟩ := envS_get e1
      refine ⟨by simpa using h1, fun k is' xs' hk e => ?_⟩
      cases k with
      | zero =>
        simp at e
        subst e
        cases is' with
        | nil => rfl
        | cons i r => exact absurd rfl (no i r xs')
      | succ k => exact h2 k is' xs' (by omega) (by simpa using e)
    cases o with
    | env is0 xs0 =>
      cases is0 with
      | cons i r =>
        simp only [envS] at h
        split at h
        · rename_i hn
          cases h
          refine ⟨rfl, fun k is' xs' hk e => ?_⟩
          cases k with
          | zero => exact absurd rfl hk
          | succ k => exact noEnv_get hn (by simpa using e)
        · cases h
      | nil => exact tail (fun _ _ _ e => by cases e) (by simpa only [envS] using h)
    | lst _ => exact tail (fun _ _ _ e => by cases e) (by simpa only [envS] using h)
    | dct _ _ => exact tail (fun _ _ _ e => by cases e) (by simpa only [envS] using h)
    | fr _ => exact tail (fun _ _ _ e => by cases e) (by simpa only [envS] using h)
/-! ### a frame's record read -/
def fillS (σ : L2.St) : List Nat → List V → L2.St
  | i :: is, v :: vs => fillS (σ.set i (some v)) is vs
  | _, _ => σ
theorem fillS_len : ∀ {is : List Nat} {vs : List V} {σ : L2.St}, (fillS σ is vs).length = σ.length
  | [], _, _ => rfl
  | _ :: _, [], _ => rfl
  | i :: is, v :: vs, σ => by
    show (fillS (σ.set i (some v)) is vs).length = _
    rw [fillS_len, List.length_set]
theorem fillS_re : ∀ {is : List Nat} {ds : List D} {vs : List V} {σ : L2.St} {env : En}, RE K mg W μ σ env → Rps K mg W ds vs → RE K mg W μ (fillS σ is vs) (fillE env is ds)
  | [], _, _, _, _, E, _ => E
  | _ :: _, [], _, _, _, E, r => by
    simp only [Rps] at r
    subst r
    exact E
  | i :: is, d :: ds, vs, σ, env, E, r => by
    simp only [Rps] at r
    obtain ⟨v, q, rfl, r1, r2⟩ := r
    show RE K mg W μ (fillS (σ.set i (some v)) is q) (fillE (setE env i d) is ds)
    exact fillS_re (E.set r1.a) r2
/-- what the record tells: cells, their values -/
theorem env_cells : ∀ {is : List Nat} {ds : List D}, EnvR K mg W is ds → is.Nodup → (∀ i j a, Gh.S i = some a → Gh.S j = some a → i = j) → ∃ (cf : CFs) (vs : List V), Rps K mg W ds vs ∧ (cf.map (·.1)).Nodup ∧ (∀ p ∈ cf, W.G p.1 = some (cellO p.1 p.2) ∧ ∃ i, i ∈ is ∧ Gh.S i = some p.1) ∧ (∀ i ∈ is, ∃ a o u, Gh.S i = some a ∧ (a, o) ∈ cf ∧ o.data = .cell (some u)) ∧
    ∀ {σ : L2.St} (i : Nat) (v : V), (fillS σ is vs)[i]? = some (some v) → σ[i]? = some (some v) ∨ ∃ a o u, Gh.S i = some a ∧ (a, o) ∈ cf ∧ o.data = .cell (some u) ∧ RelV v u
  | [], [], _, _, _ => ⟨[], [], Rps.nil, List.nodup_nil, (fun p h => nomatch h), (fun i h => nomatch h), (fun i v h => Or.inl h)⟩
  | [], _ :: _, h, _, _ => h.elim
  | _ :: _, [], h, _, _ => h.elim
  | i :: is, d :: ds, ⟨⟨a, o, u, v, h1, h2, h3, h4, h5⟩, t⟩, nd, inj => by
    obtain ⟨n1, n2⟩ := List.nodup_cons.mp nd
    obtain ⟨cf, vs, r, nd', hc, hi', hf⟩ := env_cells t n2 inj
    refine ⟨(a, o) :: cf, v :: vs, Rps.cons h5 r, List.nodup_cons.mpr ⟨fun hm => ?_, nd'⟩, fun p hp => ?_, fun j hj => ?_, fun {σ} j w hj => ?_⟩
    · obtain ⟨p, hp, e⟩ := mem_fst hm
      obtain ⟨_, i', hi, hS⟩ := hc p hp
      rw [e] at hS
      exact n1 (inj i i' a h1 hS ▸ hi)
    · rcases List.mem_cons.mp hp with e | hp
      · subst e
        exact ⟨h2, i, List.mem_cons_self, h1⟩
      · obtain ⟨q1, i', hi, hS⟩ := hc p hp
        exact ⟨q1, i', List.mem_cons_of_mem _ hi, hS⟩
    · rcases List.mem_cons.mp hj with e | hj
      · subst e
        exact ⟨a, o, u, h1, List.mem_cons_self, h3⟩
      · obtain ⟨a', o', u', q1, q2, q3⟩ := hi' j hj
        exact ⟨a', o', u', q1, List.mem_cons_of_mem _ q2, q3⟩
    · rcases hf j w hj with hj | ⟨a', o', u', q1, q2, q3, q4⟩
      · by_cases e : i = j
        · subst e
          by_cases hl : i < σ.length
          · rw [List.getElem?_set_self hl] at hj
            cases hj
            exact .inr ⟨a, o, u, h1, List.mem_cons_self, h3, h4⟩
          · rw [List.getElem?_eq_none (by simpa using hl)] at hj
            cases hj
        · rw [List.getElem?_set_ne e] at hj
          exact .inl hj
      · exact .inr ⟨a', o', u', q1, List.mem_cons_of_mem _ q2, q3, q4⟩
end
end Ev
end
section
set_option Elab.async false
set_option linter.all false
set_option maxRecDepth 100000
set_option maxHeartbeats 4000003
namespace Ev
open PySem PySem.Spec PyProof.Rows L2
variable [Gh]
/-- a row of captured slots beside their cells -/
def CfR (σ : L2.St) : List Nat → CFs → Prop
  | [], [] => True
  | i :: is, p :: cf => (∃ u v, Gh.S i = some p.1 ∧ σ[i]? = some (some v) ∧ p.2.data = .cell (some u) ∧ RelV v u) ∧ CfR σ is cf
  | _, _ => False
/-- .. beside their values -/
def CapR (σ : L2.St) : List Nat → List V → Prop
  | [], [] => True
  | i :: is, v :: vs => σ[i]? = some (some v) ∧ CapR σ is vs
  | _, _ => False
section
variable {K : PySem.W.Frag} {mg : Str → Option Value} {FF : List (Addr × HO)} {H : Hp} {W : Vw} {μ : List Addr} {st : Sto} {σ : L2.St} {env : En}
theorem cap_of (E : RE K mg W μ σ env) : ∀ {is : List Nat} {ys : List D}, capD env is = some ys → ∃ vs, Rpas K mg W μ ys vs ∧ CapR σ is vs
  | [], ys, h => by
    cases h
    exact ⟨[], rfl, True.intro⟩
  | i :: is, ys, h => by
    simp only [capD] at h
    cases e : env[i]? with
    | none => rw [e] at h; cases h
    | some o =>
      cases o with
      | none => rw [e] at h; cases h
      | some d =>
        rw [e] at h
        obtain ⟨zs, h1, rfl⟩ := Option.map_eq_some_iff.mp h
        obtain ⟨vs, r, c⟩ := cap_of E h1
        obtain ⟨v, hv, rv⟩ := E.at_ i d e
        exact ⟨v :: vs, ⟨v, vs, rfl, rv, r⟩, hv, c⟩
theorem envR_of {cf0 : CFs} (hG : ∀ p ∈ cf0, W.G p.1 = some (cellO p.1 p.2)) : ∀ {is : List Nat} {ys : List D} {vs : List V} {cf : CFs}, (∀ p ∈ cf, p ∈ cf0) → Rps K mg W ys vs → CapR σ is vs → CfR σ is cf → EnvR K mg W is ys
  | [], ys, vs, cf, _, r, c, f => by
    cases vs with
    | nil =>
      cases ys with
      | nil => exact True.intro
      | cons _ _ =>
        simp only [Rps] at r
        obtain ⟨_, _, e, _⟩ := r
        cases e
    | cons _ _ => exact c.elim
  | i :: is, ys, vs, cf, hs, r, c, f => by
    cases vs with
    | nil => exact c.elim
    | cons v vs =>
      cases cf with
      | nil => exact f.elim
      | cons p cf =>
        cases ys with
        | nil =>
          simp only [Rps] at r
          cases r
        | cons y ys =>
          simp only [Rps] at r
          obtain ⟨_, _, e, r1, r2⟩ := r
          cases e
          obtain ⟨c1, c2⟩ := c
          obtain ⟨⟨u, v', f1, f2, f3, f4⟩, ft⟩ := f
          rw [c1] at f2
          cases f2
          exact ⟨⟨p.1, p.2, u, v, f1, hG p (hs p List.mem_cons_self), f3, f4, r1⟩, envR_of hG (fun q hq => hs q (List.mem_cons_of_mem _ hq)) r2 c2 ft⟩
/-- a frame's record is told -/
theorem SA.newE {a0 : Addr} {mo : MO} (S : SA K mg FF H W μ st) (hl : mo.live = false) (hm : MoR K mg W H (some a0) mo) : SA K mg FF H W (μ ++ [a0]) (st ++ [mo]) := by
  have hk : ∀ {k : Nat}, k < st.length → (μ ++ [a0])[k]? = μ[k]? := fun {k} h => List.getElem?_append_left (by rw [S.len]; exact h)
  have he : (μ ++ [a0])[st.length]? = some a0 := by rw [← S.len]; simp
  have lv : ∀ {k : Nat} {u : MO}, (st ++ [mo])[k]? = some u → u.live = true → k < st.length ∧ st[k]? = some u := fun {k u} e l => by
    rcases get_snoc e with h | ⟨_, e⟩
    · exact h
    · rw [e, hl] at l
      cases l
  refine ⟨S.sub, by rw [List.length_append, List.length_append, S.len]; rfl, fun k u e => ?_, fun j k u u' a e1 e2 l1 l2 m1 m2 => ?_, fun p hp => ?_⟩
  · rcases get_snoc e with ⟨h, e⟩ | ⟨h, e⟩
    · rw [hk h]
      exact S.sto k u e
    · rw [h, he, e]
      exact hm
  · obtain ⟨h1, g1⟩ := lv e1 l1
    obtain ⟨h2, g2⟩ := lv e2 l2
    rw [hk h1] at m1
    rw [hk h2] at m2
    exact S.inj j k u u' a g1 g2 l1 l2 m1 m2
  · obtain ⟨q1, q2, q3⟩ := S.ff p hp
    refine ⟨q1, q2, fun k u e l => ?_⟩
    obtain ⟨h1, g1⟩ := lv e l
    rw [hk h1]
    exact q3 k u g1 l
end
section
variable {C : Cx'} {m : MC} {X : Cx} {WE : WX} {k : Nat}
/-- the captured cells as they stand -/
theorem cells_now (c : CtxOk C m X WE k) (T : TopOk m X) {pins : List (Addr × Obj)} {σ : L2.St} {H : Hp} {s : Shared} (I : Inv X pins σ H s) : ∀ {is : List Nat}, cellsB m is = true → is.Nodup → (∀ i ∈ is, ∃ v, σ[i]? = some (some v)) →
    ∃ cf : CFs, CfR σ is cf ∧ (cf.map (·.1)).Nodup ∧ ∀ p ∈ cf, H p.1 = none ∧ s.heap.get? p.1 = some p.2 ∧ X.base.get? p.1 = none ∧ p.1 ∉ frs X.stack ∧ ∃ i ∈ is, Gh.S i = some p.1
  | [], _, _, _ => ⟨[], True.intro, List.nodup_nil, fun _ h => nomatch h⟩
  | i :: is, hc, nd, hv => by
    obtain ⟨n1, n2⟩ := List.nodup_cons.mp nd
    simp only [cellsB, Bool.and_eq_true] at hc
    obtain ⟨cf, h1, h2, h3⟩ := cells_now c T I hc.2 n2 fun j hj => hv j (List.mem_cons_of_mem _ hj)
    cases e : m.N[i]? with
    | none => rw [e] at hc; exact absurd hc.1 (by simp)
    | some y =>
      rw [e] at hc
      have hy := of_decide_eq_true hc.1
      obtain ⟨a, ha, hS⟩ := T.get i y e hy
      obtain ⟨v, hσ⟩ := hv i List.mem_cons_self
      obtain ⟨mm, hn, hl⟩ := I.loc
      obtain ⟨u, ru, lk⟩ := hl i y v (by rw [c.hN]; exact e) hσ (.inr (.inl (by rw [c.hsc]; exact hy)))
      have hk : X.env.kindOf y = some .cell := by
        unfold Env.kindOf
        rw [c.hsc]
        exact hy
      rcases lk with ⟨h, _⟩ | ⟨_, a', ha', o, ho, hd⟩
      · rw [hk] at h
        cases h
      · rw [ha] at ha'
        cases ha'
        have big : X.s_0.heap.objs.size ≤ a := I.ok.cab y a (T.fnT y) ha
        refine ⟨(a, o) :: cf, ⟨⟨u, v, hS, hσ, hd, ru⟩, h1⟩, List.nodup_cons.mpr ⟨fun hm => ?_, h2⟩, fun p hp => ?_⟩
        · obtain ⟨p, hp, ep⟩ := mem_fst hm
          obtain ⟨_, _, _, _, j, hj, hSj⟩ := h3 p hp
          rw [ep] at hSj
          have : i = j := T.sj i j a hS hSj
          exact n1 (this ▸ hj)
        · rcases List.mem_cons.mp hp with ep | hp
          · subst ep
            refine ⟨I.freeC y a ha, ho, ?_, ?_, i, List.mem_cons_self, hS⟩
            · cases eb : X.base.get? a with
              | none => rfl
              | some ob => exact absurd (Heap.lt_size eb) (Nat.not_lt.mpr (Nat.le_trans I.ok.bsz big))
            · intro hm
              rcases List.mem_cons.mp (I.stkSub a hm) with z | z
              · exact I.cne y a ha z
              · obtain ⟨_, o', ho', _⟩ := I.ok.funs.mem z
                exact absurd (Heap.lt_size ho') (Nat.not_lt.mpr big)
          · obtain ⟨q1, q2, q3, q4, j, hj, q5⟩ := h3 p hp
            exact ⟨q1, q2, q3, q4, j, List.mem_cons_of_mem _ hj, q5⟩
/-- f(e, ..), the captured cells known to it -/
def tCallC (K : PySem.W.Frag) (mg : Str → Option Value) (fn : List D → M D) (is : List Nat) (t : TA) : TE := fun σ H Q => t σ H fun vs H1 => (∀ i ∈ is, ∃ v, σ[i]? = some (some v)) ∧ ∀ cf, CfR σ is cf → (cf.map (·.1)).Nodup → (∀ p ∈ cf, H1 p.1 = none ∧ ∃ i, Gh.S i = some p.1) →
  spG K mg fn vs (addC H1 cf) (fun v H2 => (∀ p ∈ cf, H2 p.1 = some (cellO p.1 p.2)) ∧ Q v (delC H2 cf)) (fun _ _ _ => False)
theorem pe_callC {f : Str} {p pos : Pos} {es : List Expr} {t : TA} {ce : Es} {is : List Nat} (c : CtxOk C m X WE k) (T : TopOk m X) (hi : cellsB m is = true) (nd : is.Nodup) (hf : m.fns.contains f = true) (hg : L2.Gl X f) (hd : (f == ("__debug__" : Str)) = false) (ha : PA X es t) (hm : mtEs m ce es = true) (hne : es ≠ []) :
    PE X (.Call (.Name f p) es [] pos) (tCallC X.K X.mg (C.orc.fn f) is t) := by
  obtain ⟨a, h1, h2⟩ := c.fns f (by simpa using hf)
  refine ⟨fun pins s σ H Q I h => wpAny_Call_Name_kw (ld_glob I hg h1 ?_ hd)⟩
  cases ce with
  | nil =>
    cases es with
    | nil => exact absurd rfl hne
    | cons _ _ => simp [mtEs] at hm
  | cons c1 cr =>
    cases es with
    | nil => exact absurd rfl hne
    | cons e es =>
      simp only [mtEs, Bool.and_eq_true] at hm
      refine PySem.W.callWith_K (h₀ := X.base) I.ok.mod.kin h2 (thn (ha.run pos pins s σ H _ I h) fun us s1 ⟨vs, H1, I1, r, hv, q⟩ => ⟨I1.kIn, ?_⟩) (nst_each hm.1.2 es X.env) (by rw [back_any, nst_all X.env hm.2])
      obtain ⟨cf, q1, q2, q3⟩ := cells_now c T I1 hi nd hv
      have hc1 : ∀ p ∈ cf, H1 p.1 = none ∧ s1.heap.get? p.1 = some p.2 := fun p hp => ⟨(q3 p hp).1, (q3 p hp).2.1⟩
      have go := q cf q1 q2 fun p hp => ⟨(q3 p hp).1, (q3 p hp).2.2.2.2.elim fun i h => ⟨i, h.2⟩⟩
      refine wpAny_call (codeAny_mono (c.fnc f a h1 X.A X.stack s1 (addC H1 cf) us vs _ _ c.room (env0_add I1.env0 q2 hc1 (fun p hp => (q3 p hp).2.2.1) fun p hp => (q3 p hp).2.2.2.1) r go) fun r s' hq => ?_)
      cases r with
      | error er =>
        obtain ⟨_, _, _, _, _, _, _, _, _, _, _, _, z⟩ := hq
        exact z.elim
      | ok fl =>
        cases fl with
        | ret u =>
          obtain ⟨v, H', os, bare, un, hok, rv, hc', q'⟩ := hq
          obtain ⟨un2, hok2⟩ := un_cut un hok q2 hc1 hc'
          exact I1.after ⟨v, delC H' cf, os, bare, un2, hok2, rv, q'⟩
        | next => exact False.elim hq
        | brk => exact False.elim hq
        | cont => exact False.elim hq
theorem s_callC (c : CtxOk C m X WE k) {f : Str} {es : Es} {xs : List Expr} {is : List Nat} {p pos : Pos} (ht : m.top = true) (hi : cellsB m is = true) (nd : is.Nodup) (hf : m.fns.contains f = true) (hg : gloB m f f = true) (hm : mtEs m es xs = true) (hne : xs ≠ []) (ih : PA X xs (RdA C X WE es)) :
    PE X (.Call (.Name f p) xs [] pos) (RdE C X WE (.callC f es is)) := by
  obtain ⟨_, g1, g2, _⟩ := c.gl hg
  refine (pe_callC (is := is) c (c.top ht) hi nd hf g1 g2 ih hm hne).imp ?_
  intro σ H Q q
  refine (rd_bnd (m := evEs C es) (rel2 := relA X.K X.mg) (f := fun e xs => optB (capD e is) fun ys => bnd (frzDs ys) fun ys => fun s => (match C.orc.fn f xs (s ++ [.env is ys]) with
    | .ok (.bl b) s' => if noEnv (s'.take s.length) then .ok (.bl b) (s'.take s.length) else .no
    | _ => .no)) q).imp ?_
  rintro vs H1 ⟨FF, env, st, ds, W, μ, S, E, r, p⟩
  obtain ⟨ys, hys, p⟩ := optB_pt p
  obtain ⟨zs, rz, cz⟩ := cap_of E hys
  obtain ⟨ys', st', W', S', x', ry, p⟩ := frzs_pt S rz p
  have capv : ∀ {is : List Nat} {zs : List V}, CapR σ is zs → ∀ i ∈ is, ∃ v, σ[i]? = some (some v) := by
    intro is
    induction is with
    | nil => intro _ _ i hi; cases hi
    | cons j r ih =>
      intro zs h i hi
      cases zs with
      | nil => exact h.elim
      | cons z zs =>
        rcases List.mem_cons.mp hi with e | hi
        · subst e
          exact ⟨z, h.1⟩
        · exact ih h.2 i hi
  refine ⟨capv cz, fun cf hcf ndc hz => ?_⟩
  have hWn : ∀ p ∈ cf, W'.G p.1 = none := fun p hp => S'.gnone (hz p hp).1
  have leA : LeW W' (W'.add cf) := LeW.add ndc hWn
  have S2 := S'.adds ndc fun p hp => (hz p hp).1
  have hG : ∀ p ∈ cf, (W'.add cf).G p.1 = some (cellO p.1 p.2) := fun p hp => addC_in ndc p hp
  have S3 := S2.newE (a0 := X.env.locals) (mo := .env is ys') rfl (envR_of (σ := σ) hG (fun p hp => hp) (ry.mono leA) cz hcf)
  have xA : Ex2 W' μ (W'.add cf) (μ ++ [X.env.locals]) := ⟨leA, [X.env.locals], rfl⟩
  refine ⟨FF, _, _, _, ds, S3, (r.mono x').mono xA, ?_⟩
  cases er : C.orc.fn f ds (st' ++ [.env is ys']) with
  | no =>
    rw [er] at p
    exact p
  | exc y s2 =>
    rw [er] at p
    exact False.elim p
  | ok d s2 =>
    rw [er] at p
    cases d <;> first | exact False.elim p | skip
    rename_i b
    dsimp only at p
    split at p
    · rename_i hne'
      intro v H2 W2 μ2 SS xx rv
      obtain rfl : v = .bl b := rv
      have hG2 : ∀ p ∈ cf, W2.G p.1 = some (cellO p.1 p.2) := fun p hp => xx.w.g _ _ (hG p hp)
      refine ⟨fun p hp => SS.sub _ _ (hG2 p hp), ?_⟩
      have S5 := (SS.cut st'.length).cuts hG2 (fun p hp => (hz p hp).2) fun k is' xs' e => noEnv_get hne' e
      obtain ⟨xw, r2, e2⟩ := xx
      have em : μ2.take st'.length = μ := by
        rw [e2, ← S'.len]
        simp
      refine p (.bl b) _ (W2.cut cf) (μ2.take st'.length) S5 ⟨⟨fun a o h => ?_⟩, [], by rw [em]; simp⟩ rfl
      show delC W2.G cf a = some o
      rw [delC_ne (out_of h hWn)]
      refine xw.g a o ?_
      show addC W'.G cf a = some o
      rw [addC_ne (out_of h hWn)]
      exact h
    · exact False.elim p
end
end Ev
end
section
set_option Elab.async false
set_option linter.all false
set_option maxRecDepth 100000
set_option maxHeartbeats 4000003
namespace Ev
open PySem PySem.Spec PyProof.Rows L2
variable [Gh]
section
variable {C : Cx'} {k : Nat}
theorem pe_neg_ne : True := trivial
mutual
theorem sndE {m : MC} {X : Cx} {WE : WX} (c : CtxOk C m X WE k) (t : Ev.E) (a : Expr) (h : mtE m t a = true) : PE X a (RdE C X WE t) := by
  match t with
  | .c kc =>
    cases a with
    | Constant v kk pos => exact s_c c (by simpa only [mtE] using h)
    | _ => simp [mtE] at h
  | .v i =>
    cases a with
    | Name x pos => exact s_v c (by simpa only [mtE] using h)
    | _ => simp [mtE] at h
  | .g x =>
    cases a with
    | Name y pos => exact s_g c (by simpa only [mtE] using h)
    | _ => simp [mtE] at h
  | .tup es =>
    cases a with
    | Tuple xs kk pos =>
      simp only [mtE, Bool.and_eq_true] at h
      exact s_tup c h.1 h.2 (sndEs c es xs h.1)
    | _ => simp [mtE] at h
  | .lst mm es =>
    cases a with
    | List xs pos =>
      simp only [mtE, Bool.and_eq_true] at h
      exact s_lst c h.1 h.2 (sndEs c es xs h.1)
    | _ => simp [mtE] at h
  | .dct mm ks es =>
    cases a with
    | Dict kx vx pos =>
      simp only [mtE, Bool.and_eq_true] at h
      obtain ⟨⟨⟨h1, h2⟩, h3⟩, h4⟩ := h
      have h3 := of_decide_eq_true h3
      have h4 := of_decide_eq_true h4
      cases kx with
      | nil =>
        cases vx with
        | cons _ _ => simp at h3
        | nil =>
          have ek : ks = [] := by cases ks <;> first | rfl | (simp [keysB] at h1)
          have ee : es = .nil := by cases es <;> first | rfl | (simp [mtEs] at h2)
          rw [ek, ee]
          exact s_dct0 c
      | cons k1 kx => exact s_dct c h1 h2 h3 h4 (by simp) (sndPs c ks es (k1 :: kx) vx h1 h2 h3 pos)
    | _ => simp [mtE] at h
  | .bin op x y =>
    cases a with
    | BinOp p o q pos =>
      simp only [mtE, Bool.and_eq_true, decide_eq_true_eq] at h
      obtain ⟨⟨rfl, h1⟩, h2⟩ := h
      exact s_bin c (sndE c x p h1) (sndE c y q h2)
    | _ => simp [mtE] at h
  | .neg x =>
    cases a with
    | UnaryOp o p pos =>
      cases o <;> simp only [mtE] at h <;> first | exact s_neg c (sndE c x p h) | cases h
    | _ => simp [mtE] at h
  | .cmp op x y =>
    cases a with
    | Compare p os qs pos =>
      cases os with
      | nil => simp [mtE] at h
      | cons o os =>
        cases os with
        | cons _ _ => simp [mtE] at h
        | nil =>
          cases qs with
          | nil => simp [mtE] at h
          | cons q qs =>
            cases qs with
            | cons _ _ => simp [mtE] at h
            | nil =>
              simp only [mtE, Bool.and_eq_true, decide_eq_true_eq] at h
              obtain ⟨⟨⟨rfl, h1⟩, h2⟩, h3⟩ := h
              exact s_cmp c h3 (sndE c x p h1) (sndE c y q h2)
    | _ => simp [mtE] at h
  | .chain op op' x y z =>
    cases a with
    | Compare p os qs pos =>
      match os, qs, h with
      | [o, o'], [q, r], h =>
        simp only [mtE, Bool.and_eq_true, decide_eq_true_eq] at h
        obtain ⟨⟨⟨⟨⟨rfl, rfl⟩, h1⟩, h2⟩, h3⟩, h4⟩ := h
        exact s_chain c h4 (sndE c x p h1) (sndE c y q h2) (sndE c z r h3)
      | [], _, h => simp [mtE] at h
      | [_], _, h => simp [mtE] at h
      | _ :: _ :: _ :: _, _, h => simp [mtE] at h
      | [_, _], [], h => simp [mtE] at h
      | [_, _], [_], h => simp [mtE] at h
      | [_, _], _ :: _ :: _ :: _, h => simp [mtE] at h
    | _ => simp [mtE] at h
  | .andv x y =>
    cases a with
    | BoolOp o es pos =>
      cases o with
      | Or => simp [mtE] at h
      | And =>
        match es, h with
        | p :: q :: r, h =>
          simp only [mtE, Bool.and_eq_true] at h
          refine s_and c (sndE c x p h.1) ⟨fun e => ?_, fun e => ?_⟩
          · subst e
            exact sndE c y q h.2
          · have h2 := h.2
            cases r with
            | nil => exact absurd rfl e
            | cons r1 rs => exact sndE c y _ h2
        | [], h => simp [mtE] at h
        | [_], h => simp [mtE] at h
    | _ => simp [mtE] at h
  | .orv x y =>
    cases a with
    | BoolOp o es pos =>
      cases o with
      | And => simp [mtE] at h
      | Or =>
        match es, h with
        | p :: q :: r, h =>
          simp only [mtE, Bool.and_eq_true] at h
          refine s_or c (sndE c x p h.1) ⟨fun e => ?_, fun e => ?_⟩
          · subst e
            exact sndE c y q h.2
          · have h2 := h.2
            cases r with
            | nil => exact absurd rfl e
            | cons r1 rs => exact sndE c y _ h2
        | [], h => simp [mtE] at h
        | [_], h => simp [mtE] at h
    | _ => simp [mtE] at h
  | .notv x =>
    cases a with
    | UnaryOp o p pos =>
      cases o <;> simp only [mtE] at h <;> first | exact s_notv c (sndE c x p h) | cases h
    | _ => simp [mtE] at h
  | .ife t x y =>
    cases a with
    | IfExp q p1 p2 pos =>
      simp only [mtE, Bool.and_eq_true] at h
      exact s_ife c (sndT c t q h.1.1) (sndE c x p1 h.1.2) (sndE c y p2 h.2)
    | _ => simp [mtE] at h
  | .ix x y =>
    cases a with
    | Subscript p q pos =>
      simp only [mtE, Bool.and_eq_true] at h
      exact s_ix c h.2 (sndE c x p h.1.1) (sndE c y q h.1.2)
    | _ => simp [mtE] at h
  | .sl mm x lo hi =>
    cases a with
    | Subscript p q pos =>
      cases q with
      | Slice l u st p2 =>
        cases st with
        | some _ => simp [mtE] at h
        | none =>
          simp only [mtE, Bool.and_eq_true] at h
          exact s_sl c (sndE c x p h.1.1) (sndO c lo l h.1.2) (sndO c hi u h.2)
      | _ => simp [mtE] at h
    | _ => simp [mtE] at h
  | .fld x f =>
    cases a with
    | Attribute p g pos =>
      simp only [mtE, Bool.and_eq_true, decide_eq_true_eq] at h
      obtain ⟨⟨h1, rfl⟩, h2⟩ := h
      exact s_fld c h2 (sndE c x p h1)
    | _ => simp [mtE] at h
  | .call f es =>
    cases a with
    | Call fn xs kws pos =>
      cases fn with
      | Name x p =>
        cases kws with
        | cons _ _ => simp [mtE] at h
        | nil =>
          simp only [mtE, Bool.and_eq_true] at h
          obtain ⟨e, _⟩ := c.gl h.1.1
          subst e
          exact s_call c h.1.2 h.1.1 h.2 (sndEs c es xs h.2)
      | _ => simp [mtE] at h
    | _ => simp [mtE] at h
  | .mk f es =>
    cases a with
    | Call fn xs kws pos =>
      cases fn with
      | Name x p =>
        cases kws with
        | cons _ _ => simp [mtE] at h
        | nil =>
          simp only [mtE, Bool.and_eq_true] at h
          obtain ⟨e, _⟩ := c.gl h.1.1
          subst e
          exact s_call c h.1.2 h.1.1 h.2 (sndEs c es xs h.2)
      | _ => simp [mtE] at h
    | _ => simp [mtE] at h
  | .bi b es =>
    cases a with
    | Call fn xs kws pos =>
      cases fn with
      | Name x p =>
        cases kws with
        | cons _ _ => simp [mtE] at h
        | nil =>
          simp only [mtE, Bool.and_eq_true, Bool.or_eq_true, Bool.not_eq_true', decide_eq_false_iff_not] at h
          obtain ⟨⟨⟨h1, h2⟩, h3⟩, h4⟩ := h
          obtain ⟨e, _⟩ := c.gl h1
          subst e
          exact s_bi c h1 h2 h3 (fun e => h4.elim (fun z => absurd e z) id) (sndEs c es xs h2)
      | _ => simp [mtE] at h
    | _ => simp [mtE] at h
  | .lrg mm es =>
    cases a with
    | Call fn xs kws pos =>
      cases fn with
      | Name x p =>
        match xs, kws, h with
        | [], _, h => simp [mtE] at h
        | _ :: _ :: _, _, h => simp [mtE] at h
        | [_], _ :: _, h => simp [mtE] at h
        | [z], [], h =>
          cases z with
          | Call fn2 zs kw2 pos1 =>
            cases fn2 with
            | Name y p1 =>
              cases kw2 with
              | cons _ _ => simp [mtE] at h
              | nil =>
                simp only [mtE, Bool.and_eq_true] at h
                obtain ⟨⟨⟨h1, h2⟩, h3⟩, h4⟩ := h
                obtain ⟨e1, _⟩ := c.gl h1
                obtain ⟨e2, _⟩ := c.gl h2
                subst e1 e2
                match es, zs, h3, h4 with
                | .nil, [], _, h4 => simp at h4
                | .nil, _ :: _, h3, _ => simp [mtEs] at h3
                | .cons _ _, [], h3, _ => simp [mtEs] at h3
                | .cons x .nil, [q], h3, _ =>
                  simp only [mtEs, Bool.and_eq_true] at h3
                  exact s_lrg1 c h1 h2 h3.1.2 (sndE c x q h3.1.1)
                | .cons x .nil, _ :: _ :: _, h3, _ => simp [mtEs] at h3
                | .cons x (.cons y .nil), [q], h3, _ => simp [mtEs] at h3
                | .cons x (.cons y .nil), [q, r], h3, _ =>
                  simp only [mtEs, Bool.and_eq_true] at h3
                  exact s_lrg2 c h1 h2 h3.1.2 h3.2.1.2 (sndE c x q h3.1.1) (sndE c y r h3.2.1.1)
                | .cons x (.cons y .nil), _ :: _ :: _ :: _, h3, _ => simp [mtEs] at h3
                | .cons x (.cons y (.cons z w)), [_], h3, _ => simp [mtEs] at h3
                | .cons x (.cons y (.cons z w)), [_, _], h3, _ => simp [mtEs] at h3
                | .cons x (.cons y (.cons z w)), _ :: _ :: _ :: _, _, h4 => simp at h4
            | _ => simp [mtE] at h
          | _ => simp [mtE] at h
      | _ => simp [mtE] at h
    | _ => simp [mtE] at h
  | .mkb b mm es =>
    cases a with
    | Call fn xs kws pos =>
      cases fn with
      | Name x p =>
        cases kws with
        | cons _ _ => simp [mtE] at h
        | nil =>
          simp only [mtE, Bool.and_eq_true, Bool.not_eq_true'] at h
          obtain ⟨⟨h1, h2⟩, h3⟩ := h
          obtain ⟨e, _⟩ := c.gl h1
          subst e
          exact s_mkb c h1 h2 h3 (sndEs c es xs h2)
      | _ => simp [mtE] at h
    | _ => simp [mtE] at h
  | .met x f es =>
    cases a with
    | Call fn xs kws pos =>
      cases fn with
      | Attribute p g ap =>
        cases kws with
        | cons _ _ => simp [mtE] at h
        | nil =>
          simp only [mtE, Bool.and_eq_true, decide_eq_true_eq, beq_iff_eq] at h
          obtain ⟨⟨⟨⟨⟨⟨h1, rfl⟩, h2⟩, h3⟩, h4⟩, h5⟩, h6⟩ := h
          by_cases hf : f = .bits
          · subst hf
            have e : xs = [] := by
              cases xs with
              | nil => rfl
              | cons _ _ => simp at h6
            subst e
            have ee : es = .nil := by cases es <;> first | rfl | (simp [mtEs] at h2)
            rw [ee]
            exact s_bits c (by simpa using h3) h4 (sndE c x p h1)
          · refine s_meth c (by simpa using h3) h4 h2 h5 ?_ hf (sndE c x p h1) (sndEs c es xs h2)
            intro e
            subst e
            simp [hf] at h6
      | _ => simp [mtE] at h
    | _ => simp [mtE] at h
  | .cal i es =>
    cases a with
    | Call fn xs kws pos =>
      cases fn with
      | Name x p =>
        cases kws with
        | cons _ _ => simp [mtE] at h
        | nil =>
          simp only [mtE, Bool.and_eq_true] at h
          exact s_cal c h.1 h.2 (sndEs c es xs h.2)
      | _ => simp [mtE] at h
    | _ => simp [mtE] at h
  | .isi x ts =>
    cases a with
    | Call fn xs kws pos =>
      cases fn with
      | Name y p =>
        match xs, kws, h with
        | [q1, q2], [], h =>
          simp only [mtE, Bool.and_eq_true] at h
          obtain ⟨⟨⟨⟨h1, h2⟩, h3⟩, h4⟩, h5⟩ := h
          obtain ⟨e, _⟩ := c.gl h1
          subst e
          cases q2 <;> first
            | (simp only [Bool.and_eq_true, Bool.not_eq_true', decide_eq_true_eq] at h5
               exact s_isiT c h1 h3 h5.1.1 (by intro e; subst e; simp at h5) h5.2 (sndE c x q1 h2))
            | (match ts, h5 with
               | [t], h5 => exact s_isi c h1 h3 h4 h5 (sndE c x q1 h2)
               | [], h5 => simp at h5
               | _ :: _ :: _, h5 => simp at h5)
        | [], _, h => simp [mtE] at h
        | [_], _, h => simp [mtE] at h
        | _ :: _ :: _ :: _, _, h => simp [mtE] at h
        | [_, _], _ :: _, h => simp [mtE] at h
      | _ => simp [mtE] at h
    | _ => simp [mtE] at h
  | .comp mm own tg it cs elt =>
    cases a with
    | ListComp x gs scope pos =>
      match gs, h with
      | [⟨t, i, fs, z⟩], h =>
        simp only [mtE, Bool.and_eq_true, decide_eq_true_eq] at h
        obtain ⟨⟨⟨⟨⟨⟨rfl, h1⟩, h2⟩, h3⟩, h4⟩, h5⟩, h6⟩ := h
        exact s_comp c h1 h3 (sndItQ c it i t h2) (fun s H D cl fp => sndTg (c.blk s H scope D cl fp) _ tg t h4) (fun s H D cl fp => sndTs (c.blk s H scope D cl fp) cs fs h5) (fun s H D cl fp => sndE (c.blk s H scope D cl fp) elt x h6)
      | [], h => simp [mtE] at h
      | _ :: _ :: _, h => simp [mtE] at h
    | _ => simp [mtE] at h
  | .callC f es is =>
    cases a with
    | Call fn xs kws pos =>
      cases fn with
      | Name x p =>
        cases kws with
        | cons _ _ => simp [mtE] at h
        | nil =>
          simp only [mtE, Bool.and_eq_true, decide_eq_true_eq, Bool.not_eq_true'] at h
          obtain ⟨⟨⟨⟨⟨⟨h1, h2⟩, h3⟩, h4⟩, h5⟩, h6⟩, h7⟩ := h
          obtain ⟨e, _⟩ := c.gl h2
          subst e
          exact s_callC c h1 h5 h6 h3 h2 h4 (by intro e; subst e; cases h7) (sndEs c es xs h4)
      | _ => simp [mtE] at h
    | _ => simp [mtE] at h
  | .xf _ => simp [mtE] at h
theorem sndEs {m : MC} {X : Cx} {WE : WX} (c : CtxOk C m X WE k) (t : Es) (a : List Expr) (h : mtEs m t a = true) : PA X a (RdA C X WE t) := by
  match t with
  | .nil =>
    cases a with
    | nil => exact pa_nil.imp fun σ H Q q => rd_nil q
    | cons _ _ => simp [mtEs] at h
  | .cons e r =>
    cases a with
    | nil => simp [mtEs] at h
    | cons x xs =>
      simp only [mtEs, Bool.and_eq_true] at h
      exact (pa_cons (sndE c e x h.1.1) (sndEs c r xs h.2) (nst_each h.1.2 _ _)).imp fun σ H Q q => rd_cons q
theorem sndO {m : MC} {X : Cx} {WE : WX} (c : CtxOk C m X WE k) (t : Es) (a : Option Expr) (h : mtO m t a = true) : (a = none ∧ t = .nil) ∨ ∃ x e, a = some x ∧ t = .cons e .nil ∧ PE X x (RdE C X WE e) := by
  match t with
  | .nil =>
    cases a with
    | none => exact .inl ⟨rfl, rfl⟩
    | some _ => simp [mtO] at h
  | .cons e r =>
    cases a with
    | none => simp [mtO] at h
    | some x =>
      simp only [mtO, Bool.and_eq_true] at h
      have er : r = .nil := by cases r <;> first | rfl | (simp [mtO] at h)
      exact .inr ⟨x, e, rfl, by rw [er], sndE c e x h.1⟩
theorem sndPs {m : MC} {X : Cx} {WE : WX} (c : CtxOk C m X WE k) (ks : List Ky) (t : Es) (kx : List (Option Expr)) (vx : List Expr) (hk : keysB ks kx = true) (h : mtEs m t vx = true) (hl : kx.length = vx.length) (pos : Pos) : PPs X pos kx vx (trsOf X.K X.mg WE C ks t) := by
  match t with
  | .nil =>
    cases vx with
    | cons _ _ => simp [mtEs] at h
    | nil =>
      cases kx with
      | cons _ _ => simp at hl
      | nil =>
        have ek : ks = [] := by cases ks <;> first | rfl | (simp [keysB] at hk)
        rw [ek]
        exact pps_nil
  | .cons e r =>
    cases vx with
    | nil => simp [mtEs] at h
    | cons v vx =>
      cases kx with
      | nil => simp at hl
      | cons o kx =>
        cases ks with
        | nil => simp [keysB] at hk
        | cons k1 ks =>
          simp only [mtEs, Bool.and_eq_true] at h
          simp only [keysB, Bool.and_eq_true] at hk
          obtain ⟨e1, rfl, pk⟩ := key_pe (X := X) hk.1
          exact pps_cons pk (sndE c e v h.1.1) (sndPs c ks r kx vx hk.2 h.2 (by simpa using hl) pos)
theorem sndT {m : MC} {X : Cx} {WE : WX} (c : CtxOk C m X WE k) (t : T) (a : Expr) (h : mtT m t a = true) : PT X a (RdT C X WE t) := by
  match t with
  | .val e =>
    simp only [mtT, Bool.and_eq_true] at h
    exact t_val c h.1 (sndE c e a h.2)
  | .cmp op x y =>
    cases a with
    | Compare p os qs pos =>
      match os, qs, h with
      | [o], [q], h =>
        simp only [mtT, Bool.and_eq_true, decide_eq_true_eq] at h
        obtain ⟨⟨⟨rfl, h1⟩, h2⟩, h3⟩ := h
        exact t_cmp c h3 (sndE c x p h1) (sndE c y q h2)
      | [], _, h => simp [mtT] at h
      | [_], [], h => simp [mtT] at h
      | [_], _ :: _ :: _, h => simp [mtT] at h
      | _ :: _ :: _, _, h => simp [mtT] at h
    | _ => simp [mtT] at h
  | .chain op op' x y z =>
    cases a with
    | Compare p os qs pos =>
      match os, qs, h with
      | [o, o'], [q, r], h =>
        simp only [mtT, Bool.and_eq_true, decide_eq_true_eq] at h
        obtain ⟨⟨⟨⟨⟨rfl, rfl⟩, h1⟩, h2⟩, h3⟩, h4⟩ := h
        exact t_chain c h4 (sndE c x p h1) (sndE c y q h2) (sndE c z r h3)
      | [], _, h => simp [mtT] at h
      | [_], _, h => simp [mtT] at h
      | _ :: _ :: _ :: _, _, h => simp [mtT] at h
      | [_, _], [], h => simp [mtT] at h
      | [_, _], [_], h => simp [mtT] at h
      | [_, _], _ :: _ :: _ :: _, h => simp [mtT] at h
    | _ => simp [mtT] at h
  | .and x y =>
    cases a with
    | BoolOp o es pos =>
      cases o with
      | Or => simp [mtT] at h
      | And =>
        match es, h with
        | p :: q :: r, h =>
          simp only [mtT, Bool.and_eq_true] at h
          refine t_and c (sndT c x p h.1) ⟨fun e => ?_, fun e => ?_⟩
          · subst e
            exact sndT c y q h.2
          · have h2 := h.2
            cases r with
            | nil => exact absurd rfl e
            | cons r1 rs => exact sndT c y _ h2
        | [], h => simp [mtT] at h
        | [_], h => simp [mtT] at h
    | _ => simp [mtT] at h
  | .or x y =>
    cases a with
    | BoolOp o es pos =>
      cases o with
      | And => simp [mtT] at h
      | Or =>
        match es, h with
        | p :: q :: r, h =>
          simp only [mtT, Bool.and_eq_true] at h
          refine t_or c (sndT c x p h.1) ⟨fun e => ?_, fun e => ?_⟩
          · subst e
            exact sndT c y q h.2
          · have h2 := h.2
            cases r with
            | nil => exact absurd rfl e
            | cons r1 rs => exact sndT c y _ h2
        | [], h => simp [mtT] at h
        | [_], h => simp [mtT] at h
    | _ => simp [mtT] at h
  | .not x =>
    cases a with
    | UnaryOp o p pos =>
      cases o <;> simp only [mtT] at h <;> first | exact t_not c (sndT c x p h) | cases h
    | _ => simp [mtT] at h
theorem sndTs {m : MC} {X : Cx} {WE : WX} (c : CtxOk C m X WE k) (t : Ts) (a : List Expr) (h : mtTs m t a = true) : PTs X a (rd X.K X.mg WE relB (evTs C t)) := by
  match t with
  | .nil =>
    cases a with
    | nil => exact pts_nil.imp fun σ H Q q => rd_retB (b := true) q
    | cons _ _ => simp [mtTs] at h
  | .cons t r =>
    cases a with
    | nil => simp [mtTs] at h
    | cons x xs =>
      cases xs with
      | cons _ _ => simp [mtTs] at h
      | nil =>
        simp only [mtTs, Bool.and_eq_true] at h
        have er : r = .nil := by cases r <;> first | rfl | (simp [mtTs] at h)
        subst er
        refine (pts_one (sndT c t x h.1)).imp ?_
        intro σ H Q q
        exact rd.imp (rd_if (f := fun _ => ret true) (g := fun _ => ret false) q) fun b H1 q1 => by
          cases b with
          | true => exact rd_retB q1
          | false => exact rd_retB q1
theorem sndIt {m : MC} {X : Cx} {WE : WX} (c : CtxOk C m X WE k) (t : Ev.It) (a tg : Expr) (h : mtIt m t a tg = true) : PI X tg a (rd X.K X.mg WE (relI X.K X.mg) (evIt C t)) := by
  match t with
  | .seq e => exact i_seq c (sndE c e a (by simpa only [mtIt] using h))
  | .rng es =>
    cases a with
    | Call fn xs kws pos =>
      cases fn with
      | Name x p =>
        cases kws with
        | cons _ _ => simp [mtIt] at h
        | nil =>
          simp only [mtIt, Bool.and_eq_true, decide_eq_true_eq] at h
          obtain ⟨⟨h1, h2⟩, h3⟩ := h
          obtain ⟨e, _⟩ := c.gl h1
          subst e
          exact i_rng c h1 h2 h3 (sndEs c es xs h2)
      | _ => simp [mtIt] at h
    | _ => simp [mtIt] at h
  | .enum e =>
    cases a with
    | Call fn xs kws pos =>
      cases fn with
      | Name x p =>
        match xs, kws, h with
        | [y], [], h =>
          simp only [mtIt, Bool.and_eq_true] at h
          obtain ⟨⟨⟨h1, h2⟩, h3⟩, h4⟩ := h
          obtain ⟨e', _⟩ := c.gl h1
          subst e'
          cases tg <;> first | exact i_enum c h1 h3 (sndE c e y h2) | cases h4
        | [], _, h => simp [mtIt] at h
        | _ :: _ :: _, _, h => simp [mtIt] at h
        | [_], _ :: _, h => simp [mtIt] at h
      | _ => simp [mtIt] at h
    | _ => simp [mtIt] at h
  | .zip es =>
    cases a with
    | Call fn xs kws pos =>
      cases fn with
      | Name x p =>
        cases kws with
        | cons _ _ => simp [mtIt] at h
        | nil =>
          simp only [mtIt, Bool.and_eq_true, decide_eq_true_eq] at h
          obtain ⟨⟨⟨h1, h2⟩, h3⟩, h4⟩ := h
          obtain ⟨e', _⟩ := c.gl h1
          subst e'
          cases tg <;> first | exact i_zip c h1 h2 h3 (sndEs c es xs h2) | cases h4
      | _ => simp [mtIt] at h
    | _ => simp [mtIt] at h
theorem sndItQ {m : MC} {X : Cx} {WE : WX} (c : CtxOk C m X WE k) (t : Ev.It) (a tg : Expr) (h : mtIt m t a tg = true) : PI X tg a (tQ X.K X.mg WE (evItQ C t)) := by
  match t with
  | .seq e => exact (i_seq c (sndE c e a (by simpa only [mtIt] using h))).imp fun σ H R q => tQ_rd q
  | .rng es =>
    cases a with
    | Call fn xs kws pos =>
      cases fn with
      | Name x p =>
        cases kws with
        | cons _ _ => simp [mtIt] at h
        | nil =>
          simp only [mtIt, Bool.and_eq_true, decide_eq_true_eq] at h
          obtain ⟨⟨h1, h2⟩, h3⟩ := h
          obtain ⟨e, _⟩ := c.gl h1
          subst e
          exact (i_rng c h1 h2 h3 (sndEs c es xs h2)).imp fun σ H R q => tQ_rd q
      | _ => simp [mtIt] at h
    | _ => simp [mtIt] at h
  | .enum e =>
    cases a with
    | Call fn xs kws pos =>
      cases fn with
      | Name x p =>
        match xs, kws, h with
        | [y], [], h =>
          simp only [mtIt, Bool.and_eq_true] at h
          obtain ⟨⟨⟨h1, h2⟩, h3⟩, h4⟩ := h
          obtain ⟨e', _⟩ := c.gl h1
          subst e'
          cases tg <;> first | exact i_enumQ c h1 h3 (sndE c e y h2) | cases h4
        | [], _, h => simp [mtIt] at h
        | _ :: _ :: _, _, h => simp [mtIt] at h
        | [_], _ :: _, h => simp [mtIt] at h
      | _ => simp [mtIt] at h
    | _ => simp [mtIt] at h
  | .zip es =>
    cases a with
    | Call fn xs kws pos =>
      cases fn with
      | Name x p =>
        cases kws with
        | cons _ _ => simp [mtIt] at h
        | nil =>
          simp only [mtIt, Bool.and_eq_true, decide_eq_true_eq] at h
          obtain ⟨⟨⟨h1, h2⟩, h3⟩, h4⟩ := h
          obtain ⟨e', _⟩ := c.gl h1
          subst e'
          cases tg <;> first | exact (i_zip c h1 h2 h3 (sndEs c es xs h2)).imp fun σ H R q => tQ_rd q | cases h4
      | _ => simp [mtIt] at h
    | _ => simp [mtIt] at h
end
end
end Ev
end
section
set_option Elab.async false
set_option linter.all false
set_option maxRecDepth 100000
set_option maxHeartbeats 4000003
namespace Ev
open PySem PySem.Spec PyProof.Rows L2
variable [Gh]
/-- what is told of the frame's own objects -/
abbrev FO := List (Addr × HO) → Vw → Prop
section
variable (K : PySem.W.Frag) (mg : Str → Option Value) (WE : WX) (fo : FO)
/-- a statement's answer -/
def PtF (W : Vw) (μ : List Addr) (r : R Fl) (D : Ends) : Prop := match r with
  | .ok f st' => ∀ FF' σ' H' W' μ', fo FF' W' → SA K mg FF' H' W' μ' st' → Ex2 W μ W' μ' → (match f with
    | .nx e' => RE K mg W' μ' σ' e' → D.nx σ' H'
    | .bk e' => RE K mg W' μ' σ' e' → D.bk σ' H'
    | .ct e' => RE K mg W' μ' σ' e' → D.ct σ' H'
    | .rt d => ∀ v, Rpa K mg W' μ' d v → D.rt v H')
  | .exc x st' => ∀ FF' σ' H' W' μ' cls dd, fo FF' W' → SA K mg FF' H' W' μ' st' → Ex2 W μ W' μ' → ExR K mg W' x cls dd → WE cls dd σ' H'
  | .no => False
def rdS (ev : En → M Fl) : TS := fun D σ H => ∃ FF env st W μ, fo FF W ∧ SA K mg FF H W μ st ∧ RE K mg W μ σ env ∧ PtF K mg WE fo W μ (ev env st) D
end
section
variable {K : PySem.W.Frag} {mg : Str → Option Value} {WE : WX} {fo : FO} {α β γ δ : Type} {rel : Rl α β} {rel2 : Rl γ δ} {FF : List (Addr × HO)} {σ : L2.St} {W W1 : Vw} {μ μ1 : List Addr} {H : Hp} {st : Sto} {env : En} {D : Ends}
theorem PtF.mono {r : R Fl} (x : Ex2 W μ W1 μ1) (h : PtF K mg WE fo W μ r D) : PtF K mg WE fo W1 μ1 r D := by
  cases r with
  | ok f st' => exact fun FF' σ' H' W' μ' f s e => h FF' σ' H' W' μ' f s (x.trans e)
  | exc y st' => exact fun FF' σ' H' W' μ' cls dd f s e => h FF' σ' H' W' μ' cls dd f s (x.trans e)
  | no => exact h
theorem ptF_bnd {mm : M α} {f : α → M Fl} (fm : ∀ FF W W', LeW W W' → fo FF W → fo FF W') (hf : fo FF W) (h : PtF K mg WE fo W μ (bnd mm f st) D) :
    Pt K mg WE rel FF σ W μ (mm st) (fun b H1 => ∃ a st' W' μ', fo FF W' ∧ SA K mg FF H1 W' μ' st' ∧ Ex2 W μ W' μ' ∧ rel W' μ' a b ∧ PtF K mg WE fo W' μ' (f a st') D) := by
  unfold bnd at h
  cases e : mm st with
  | ok a st1 =>
    rw [e] at h
    exact fun b H1 W1 μ1 S1 x r => ⟨a, st1, W1, μ1, fm _ _ _ x.w hf, S1, x, r, PtF.mono x h⟩
  | exc y st1 =>
    rw [e] at h
    exact fun H' W' μ' cls dd S' x r => h FF σ H' W' μ' cls dd (fm _ _ _ x.w hf) S' x r
  | no =>
    rw [e] at h
    exact h
theorem rdS_bnd {m : En → M α} {f : En → α → M Fl} (fm : ∀ FF W W', LeW W W' → fo FF W → fo FF W') (h : rdS K mg WE fo (fun e => bnd (m e) (f e)) D σ H) :
    rd K mg WE rel m σ H (fun b H1 => ∃ FF env st a W μ, fo FF W ∧ SA K mg FF H1 W μ st ∧ RE K mg W μ σ env ∧ rel W μ a b ∧ PtF K mg WE fo W μ (f env a st) D) := by
  obtain ⟨FF, env, st, W, μ, F, S, E, p⟩ := h
  refine ⟨FF, env, st, W, μ, S, E, (ptF_bnd (rel := rel) fm F p).imp ?_⟩
  rintro b H1 ⟨a, st', W', μ', F', S', x, r, p⟩
  exact ⟨FF, env, st', a, W', μ', F', S', E.mono x, r, p⟩
theorem ptF_nx {e' : En} (F : fo FF W) (S : SA K mg FF H W μ st) (E : RE K mg W μ σ e') (p : PtF K mg WE fo W μ (ret (.nx e') st) D) : D.nx σ H := p FF σ H W μ F S (Ex2.refl _ _) E
theorem ptF_frz {d : Ev.D} {v : V} {f : Ev.D → M Fl} (fm : ∀ FF W W', LeW W W' → fo FF W → fo FF W') (F : fo FF W) (S : SA K mg FF H W μ st) (r : Rpa K mg W μ d v) (h : PtF K mg WE fo W μ (bnd (frzD d) f st) D) :
    ∃ d' st' W', fo FF W' ∧ SA K mg FF H W' μ st' ∧ Ex2 W μ W' μ ∧ Rp K mg W' d' v ∧ PtF K mg WE fo W' μ (f d' st') D := by
  unfold bnd at h
  cases e : frzD d st with
  | ok d' st' =>
    rw [e] at h
    obtain ⟨W', S', x, rr⟩ := frz_ok S r e
    exact ⟨d', st', W', fm _ _ _ x.w F, S', x, rr, PtF.mono x h⟩
  | exc y st' =>
    rw [e] at h
    cases d <;> simp only [frzD] at e <;> first | cases e | (split at e <;> cases e)
  | no =>
    rw [e] at h
    exact False.elim h
theorem ptF_frzs {ds : List Ev.D} {vs : List V} {f : List Ev.D → M Fl} (fm : ∀ FF W W', LeW W W' → fo FF W → fo FF W') (F : fo FF W) (S : SA K mg FF H W μ st) (r : Rpas K mg W μ ds vs) (h : PtF K mg WE fo W μ (bnd (frzDs ds) f st) D) :
    ∃ ds' st' W', fo FF W' ∧ SA K mg FF H W' μ st' ∧ Ex2 W μ W' μ ∧ Rps K mg W' ds' vs ∧ PtF K mg WE fo W' μ (f ds' st') D := by
  unfold bnd at h
  cases e : frzDs ds st with
  | ok d' st' =>
    rw [e] at h
    obtain ⟨W', S', x, rr⟩ := frzs_ok S r e
    exact ⟨d', st', W', fm _ _ _ x.w F, S', x, rr, PtF.mono x h⟩
  | exc y st' => exact (frzs_ex e).elim
  | no =>
    rw [e] at h
    exact False.elim h
/-- the ends led over -/
theorem PtF.imp {r : R Fl} {D' : Ends} (h : PtF K mg WE fo W μ r D) (q1 : ∀ σ H, D.nx σ H → D'.nx σ H) (q2 : ∀ v H, D.rt v H → D'.rt v H) (q3 : ∀ σ H, D.bk σ H → D'.bk σ H) (q4 : ∀ σ H, D.ct σ H → D'.ct σ H) : PtF K mg WE fo W μ r D' := by
  cases r with
  | ok f st' =>
    intro FF' σ' H' W' μ' F s x
    have p' := h FF' σ' H' W' μ' F s x
    cases f with
    | nx e' => exact fun z => q1 _ _ (p' z)
    | bk e' => exact fun z => q3 _ _ (p' z)
    | ct e' => exact fun z => q4 _ _ (p' z)
    | rt d => exact fun v z => q2 _ _ (p' v z)
  | exc y st' => exact h
  | no => exact h
/-- a run of statements goes on behind -/
theorem PtF.seq {mm : M Fl} {f : En → M Fl} (h : PtF K mg WE fo W μ (bnd mm (fun r => match r with
    | .nx e' => f e'
    | r => ret r) st) D) : PtF K mg WE fo W μ (mm st) { D with nx := rdS K mg WE fo f D } := by
  unfold bnd at h
  cases e : mm st with
  | ok r st1 =>
    rw [e] at h
    intro FF' σ' H' W' μ' F s x
    cases r with
    | nx e' => exact fun z => ⟨FF', e', st1, W', μ', F, s, z, PtF.mono x h⟩
    | bk e' => exact fun z => h FF' σ' H' W' μ' F s x z
    | ct e' => exact fun z => h FF' σ' H' W' μ' F s x z
    | rt d => exact fun v z => h FF' σ' H' W' μ' F s x v z
  | exc y st1 =>
    rw [e] at h
    exact h
  | no =>
    rw [e] at h
    exact h
end
/-- what a statement wants besides -/
structure StmOk (m : MC) (X : Cx) (fo : FO) : Prop where
  kind : X.env.scope.kind = .function
  own : PassesOwn (model X.prog X.w) X.A X.env X.xe
  ts : m.ts = m.sc
  fm : ∀ FF W W', LeW W W' → fo FF W → fo FF W'
  stk : X.stack = X.env :: X.outer
  fr : X.env.frame = some X.env.locals
section
variable {C : Cx'} {m : MC} {X : Cx} {WE : WX} {k : Nat} {fo : FO}
abbrev RdS (C : Cx') (X : Cx) (WE : WX) (fo : FO) (c : S) : TS := rdS X.K X.mg WE fo (evS C c)
abbrev RdSs (C : Cx') (X : Cx) (WE : WX) (fo : FO) (c : Ss) : TS := rdS X.K X.mg WE fo (evSs C c)
theorem blockKind_fn (q : StmOk m X fo) : X.env.blockKind = .function := by
  unfold Env.blockKind
  rw [q.kind]
  rfl
theorem kindOf_sc (c : CtxOk C m X WE k) (x : Str) : X.env.kindOf x = m.sc.names.lookup x := by
  unfold Env.kindOf
  rw [c.hsc]
def nsd : Expr → Bool
  | .SetComp .. => false
  | .DictComp .. => false
  | _ => true
theorem sw_eq (c : CtxOk C m X WE k) (q : StmOk m X fo) {e g : Expr} {l : Nat} (h : nlc e = true ∨ swB m.sc e g = false) (he : nsd e = true) : swapsWith e (some g) l X.env = pure false := by
  rcases h with h | h
  · exact nlc_swap h _ _ _
  · cases e <;> first | rfl | cases he | skip
    rename_i elt gs scope pos
    cases g <;> first | rfl | skip
    rename_i t p
    unfold swapsWith
    simp only [swB] at h
    simp only [blockKind_fn q, kindOf_sc c, Expr.pos]
    show pure _ = pure false
    congr 1
    rw [show (m.sc.names.lookup t == some NameKind.local) = decide (m.sc.names.lookup t = some .local) from by
      generalize List.lookup t m.sc.names = o
      cases o with
      | none => rfl
      | some kd => cases kd <;> rfl]
    simpa using h
theorem mtE_nsd {e : Ev.E} {x : Expr} (h : mtE m e x = true) : nsd x = true := by
  cases x <;> first | rfl | (cases e <;> simp [mtE] at h)
/-- a plain assignment's target -/
def gA (C : Cx') (m : MC) (X : Cx) (WE : WX) (t : Tg) : TG := match t with
  | .name i => gName i
  | .tup ts => gP X.K X.mg (List.range m.N.length) (.tup ts)
  | .ix a b => gSub (RdE C X WE a) (RdE C X WE b) (rSet X.K X.mg WE)
theorem pg_asg (c : CtxOk C m X WE k) {t : Tg} {g : Expr} (h : mtA m t g = true) : PG X g (gA C m X WE t) := by
  cases t with
  | name i =>
    cases g <;> first | (simp [mtA, mtTg] at h; done) | skip
    simp only [mtA, mtTg, Bool.and_eq_true] at h
    obtain ⟨h1, h2, h3⟩ := c.tgt h.1
    exact pg_name (c.hN ▸ c.nd) h1 h2 h3
  | tup ts => exact sndTg c _ (.tup ts) g (by simpa only [mtA] using h)
  | ix a b =>
    cases g <;> first | (simp [mtA] at h; done) | skip
    rename_i p q pos
    simp only [mtA, Bool.and_eq_true] at h
    have hq := h.2
    exact pg_sub (sndE c a p h.1.1) (sndE c b q h.1.2) (set_ok (by have := c.hu; omega)) (fun v => by cases q <;> first | rfl | cases hq)
theorem gA_of (q : StmOk m X fo) {t : Tg} {d : Ev.D} {v : V} {FF : List (Addr × HO)} {σ : L2.St} {H : Hp} {W : Vw} {μ : List Addr} {st : Sto} {env : En} {D : Ends} (F : fo FF W) (S : SA X.K X.mg FF H W μ st) (E : RE X.K X.mg W μ σ env) (r : Rpa X.K X.mg W μ d v)
    (p : PtF X.K X.mg WE fo W μ (bnd (asgA t (evE C) d env) (fun e' => ret (.nx e')) st) D) : gA C m X WE t v σ H D.nx := by
  cases t with
  | name i => exact ptF_nx F S (E.set r) p
  | tup ts =>
    simp only [asgA] at p
    rw [bnd_bnd] at p
    obtain ⟨d', st', W', F', S', x, rr, p⟩ := ptF_frz q.fm F S r p
    cases e : asgP (.tup ts) d' env with
    | none => rw [e] at p; exact False.elim p
    | some e' =>
      rw [e] at p
      exact ⟨FF, env, st', W', μ, d', e', S', E.mono x, rr, e, fun σ' E' _ _ => ptF_nx F' S' E' p⟩
  | ix a b =>
    simp only [asgA] at p
    rw [bnd_bnd] at p
    refine ⟨FF, env, st, W, μ, S, E, (ptF_bnd (rel := relA X.K X.mg) q.fm F p).imp ?_⟩
    rintro o H1 ⟨od, st1, W1, μ1, F1, S1, x1, r1, p⟩
    rw [bnd_bnd] at p
    refine ⟨FF, env, st1, W1, μ1, S1, E.mono x1, (ptF_bnd (rel := relA X.K X.mg) q.fm F1 p).imp ?_⟩
    rintro i H2 ⟨id', st2, W2, μ2, F2, S2, x2, r2, p⟩
    rw [bnd_bnd] at p
    refine ⟨FF, σ, st2, W2, μ2, od, id', d, S2, r1.mono x2, r2, (r.mono x1).mono x2, (ptF_bnd (rel := relU) q.fm F2 p).imp ?_⟩
    rintro u H3 ⟨_, st3, W3, μ3, F3, S3, x3, _, p⟩
    exact ptF_nx F3 S3 (((E.mono x1).mono x2).mono x3) p
theorem fm_short (c : CtxOk C m X WE k) {l : Nat} : ∀ {gs : List Expr}, allLoc m gs = false → (gs.filterMap fun
    | .Name id pos => if X.env.kindOf id == some .local && pos.line == l then some id else none
    | _ => none).length < gs.length
  | [], h => by simp [allLoc] at h
  | g :: gs, h => by
    have le : ∀ (f : Expr → Option Str) (gs : List Expr), (gs.filterMap f).length ≤ gs.length := fun f gs => List.length_filterMap_le f gs
    rw [List.filterMap_cons]
    cases g <;> first | (simp only []; exact Nat.lt_succ_of_le (le _ _)) | skip
    rename_i x p
    simp only [allLoc, Bool.and_eq_false_iff, decide_eq_false_iff_not] at h
    dsimp only
    by_cases hx : m.sc.names.lookup x = some .local
    · have h2 := fm_short c (l := l) (h.resolve_left fun z => z hx)
      split
      · exact Nat.lt_succ_of_lt h2
      · rw [List.length_cons, List.length_cons]
        exact Nat.succ_lt_succ h2
    · have e : (X.env.kindOf x == some .local && p.line == l) = false := by
        rw [kindOf_sc c]
        have : (m.sc.names.lookup x == some NameKind.local) = false := by
          revert hx
          generalize m.sc.names.lookup x = o
          intro hx
          cases o with
          | none => rfl
          | some kd => cases kd <;> first | rfl | exact absurd rfl hx
        rw [this]
        rfl
      rw [e]
      exact Nat.lt_succ_of_le (le _ _)
theorem sws_none (c : CtxOk C m X WE k) {gs vs : List Expr} {k1 k2 : Nat} {p1 p2 : Pos} (h : allLoc m gs = false) : swappedStores [.Tuple gs k1 p1] (.Tuple vs k2 p2) X.env = pure none := by
  unfold swappedStores
  have hs := fm_short c (l := (gs.head?.map (·.pos.line)).getD 0) h
  simp only []
  split
  · rfl
  · split
    · rfl
    · exact if_pos (by
        rw [Bool.or_eq_true]
        refine .inl ?_
        rw [bne_iff_ne]
        exact Nat.ne_of_lt hs)
theorem asg_one {g : Expr} (h : nst g = true) (env : Env) : (assignEach [g] env).map (·.2) = [assign g env] := by
  cases g <;> first | rfl | cases h
theorem ps_asgE (c : CtxOk C m X WE k) (q : StmOk m X fo) {t : Tg} {e : Ev.E} {g x : Expr} {pos : Pos} (h : mtS m (.asg t e) (.Assign [g] x pos) = true) : PS X (.Assign [g] x pos) (RdS C X WE fo (.asg t e)) := by
  simp only [mtS, Bool.and_eq_true, Bool.or_eq_true, Bool.not_eq_true'] at h
  obtain ⟨⟨⟨⟨h1, h2⟩, h3⟩, h4⟩, h5⟩ := h
  have rdA : ∀ D σ H, RdS C X WE fo (.asg t e) D σ H → RdE C X WE e σ H fun v H1 => gA C m X WE t v σ H1 D.nx := fun D σ H w => by
    refine (rdS_bnd (rel := relA X.K X.mg) (m := evE C e) (f := fun en d => bnd (asgA t (evE C) d en) fun e' => ret (.nx e')) q.fm w).imp ?_
    rintro v H1 ⟨FF, env, st, d, W, μ, F, S, E, r, p⟩
    exact gA_of q F S E r p
  by_cases hs : nlc x = true ∨ swB m.sc x g = false
  · refine (ps_asg (sndE c e x h2) (pg_asg c h1) (sw_eq c q hs (mtE_nsd h2)) ?_ (asg_one h3 _)).imp rdA
    cases g <;> first | rfl | (simp at h5; done) | skip
    cases x <;> first | rfl | (simp at h5; done) | skip
    exact sws_none c (by simpa using h5)
  · have hs1 : nlc x = false := by
      cases e1 : nlc x with
      | true => exact absurd (.inl e1) hs
      | false => rfl
    have hs2 : swB m.sc x g = true := by
      cases e1 : swB m.sc x g with
      | false => exact absurd (.inr e1) hs
      | true => rfl
    have hn : ∃ i, t = .name i := by
      rcases h4 with (h4 | h4) | h4
      · exact absurd (.inl h4) hs
      · exact absurd (.inr h4) hs
      · cases t <;> first | exact ⟨_, rfl⟩ | cases h4
    obtain ⟨i, rfl⟩ := hn
    cases x <;> first | (simp [swB] at hs2; done) | skip
    rename_i elt gs scope lpos
    cases g <;> first | (simp [swB] at hs2; done) | skip
    rename_i y py
    simp only [swB, Bool.and_eq_true, decide_eq_true_eq, Bool.not_eq_true'] at hs2
    obtain ⟨⟨w1, w2⟩, w3⟩ := hs2
    simp only [mtA, mtTg, Bool.and_eq_true] at h1
    obtain ⟨g1, g2, g3⟩ := c.tgt h1.1
    cases e <;> first | (simp [mtE] at h2; done) | skip
    rename_i mm own tg it cs elt'
    match gs, h2, rdA with
    | [⟨t, it', fs, z⟩], h2, rdA =>
      simp only [mtE, Bool.and_eq_true, decide_eq_true_eq] at h2
      obtain ⟨⟨⟨⟨⟨⟨rfl, b1⟩, b2⟩, b3⟩, b4⟩, b5⟩, b6⟩ := h2
      have ok : BlkOk X.N X.env.scope scope own := by
        rw [c.hN, c.hsc]
        exact blkOk_by b1
      have hyl : X.env.scope.names.lookup y = some .local := by
        rw [c.hsc]
        exact w1
      refine (ps_setLc (te := rd X.K X.mg (fun _ _ _ _ => False) (relA X.K X.mg) (evE C elt')) (tt := rd X.K X.mg (fun _ _ _ _ => False) relB (evTs C cs)) (g := gP X.K X.mg (own.map (·.2)) tg) (wi := tQ X.K X.mg WE (evItQ C it)) (own := own)
        c.calm (c.hN ▸ c.nd) g1 hyl (sw_true q.kind hyl w2 w3) (sndItQ c it it' t b2) ok (fun s H D cl fp => sndTg (c.blk s H scope D cl fp) _ tg t b4) (fun s H D cl fp => sndTs (c.blk s H scope D cl fp) cs fs b5) (fun s H D cl fp => sndE (c.blk s H scope D cl fp) elt' elt b6) (nset_for b3 X.env)).imp ?_
      intro D σ H w
      exact rd_comp C (rdA D σ H w)
    | [], h2, _ => simp [mtE] at h2
    | _ :: _ :: _, h2, _ => simp [mtE] at h2
theorem namesB_len : ∀ {is : List Nat} {gs : List Expr}, namesB m is gs = true → is.length = gs.length
  | [], [], _ => rfl
  | [], _ :: _, h => by simp [namesB] at h
  | _ :: _, [], h => by simp [namesB] at h
  | i :: is, g :: gs, h => by
    cases g <;> simp [namesB] at h
    rw [List.length_cons, List.length_cons, namesB_len h.2]
theorem sws2 {env : Env} {y1 y2 : Str} {p1 p2 : Pos} {kt : Nat} {pt : Pos} {a b : Expr} {k2 : Nat} {pt2 : Pos} (hb : env.blockKind = .function) (k1 : env.kindOf y1 = some .local) (k2' : env.kindOf y2 = some .local) (hl : p2.line = p1.line) (hy : y1 ≠ y2)
    (na : nst a = true) (nb : nst b = true) (hf : [a, b].all (foldedForSure 8) = false) (hc : [a, b].all (constantsAlone 8) = false) : swappedStores [.Tuple [.Name y1 p1, .Name y2 p2] kt pt] (.Tuple [a, b] k2 pt2) env = pure (some [y1, y2]) := by
  have ed : [y1, y2].eraseDups = [y1, y2] := by
    have : (y2 == y1) = false := by simpa using fun e => hy e.symm
    simp [List.eraseDups, List.eraseDupsBy, List.eraseDupsBy.loop, this]
  unfold swappedStores
  simp only [hb, k1, k2', hl, hf, hc, Expr.pos, List.filterMap, List.head?, Option.map, Option.getD, ed, List.length, beq_self_eq_true, Bool.and_true, if_true, bne_self_eq_false, Bool.or_false, Bool.or_true, Bool.true_or, Bool.not_true, Bool.false_or, if_false, Bool.false_eq_true, List.any]
  clear hf hc
  split
  · cases na
  · cases b <;> first | rfl | cases nb
theorem sws3 {env : Env} {y1 y2 y3 : Str} {p1 p2 p3 : Pos} {kt : Nat} {pt : Pos} {a b c : Expr} {k2 : Nat} {pt2 : Pos} (hb : env.blockKind = .function) (k1 : env.kindOf y1 = some .local) (k2' : env.kindOf y2 = some .local) (k3' : env.kindOf y3 = some .local) (hl : p2.line = p1.line) (hl3 : p3.line = p1.line) (hy : y1 ≠ y2) (hy2 : y1 ≠ y3) (hy3 : y2 ≠ y3)
    (na : nst a = true) (nb : nst b = true) (nc : nst c = true) (hf : [a, b, c].all (foldedForSure 8) = false) (hc : [a, b, c].all (constantsAlone 8) = false) : swappedStores [.Tuple [.Name y1 p1, .Name y2 p2, .Name y3 p3] kt pt] (.Tuple [a, b, c] k2 pt2) env = pure (some [y1, y2, y3]) := by
  have ed : [y1, y2, y3].eraseDups = [y1, y2, y3] := by
    have e1 : (y2 == y1) = false := by simpa using fun e => hy e.symm
    have e2 : (y3 == y1) = false := by simpa using fun e => hy2 e.symm
    have e3 : (y3 == y2) = false := by simpa using fun e => hy3 e.symm
    simp [List.eraseDups, List.eraseDupsBy, List.eraseDupsBy.loop, e1, e2, e3]
  unfold swappedStores
  simp only [hb, k1, k2', k3', hl, hl3, hf, hc, Expr.pos, List.filterMap, List.head?, Option.map, Option.getD, ed, List.length, beq_self_eq_true, Bool.and_true, if_true, bne_self_eq_false, Bool.or_false, Bool.or_true, Bool.true_or, Bool.not_true, Bool.false_or, if_false, Bool.false_eq_true, List.any]
  clear hf hc
  split
  · cases na
  · cases b <;> first | exact nomatch (show false = true from nb) | (cases c <;> first | rfl | exact nomatch (show false = true from nc))
theorem mtEs_nst : ∀ {es : Es} {xs : List Expr}, mtEs m es xs = true → ∀ x ∈ xs, nst x = true
  | .nil, [], _, _, hx => nomatch hx
  | .nil, _ :: _, h, _, _ => by simp [mtEs] at h
  | .cons _ _, [], h, _, _ => by simp [mtEs] at h
  | .cons e r, y :: ys, h, x, hx => by
    simp only [mtEs, Bool.and_eq_true] at h
    rcases List.mem_cons.mp hx with e | hx
    · subst e
      exact h.1.2
    · exact mtEs_nst h.2 x hx
theorem ps_parE (c : CtxOk C m X WE k) (q : StmOk m X fo) {is : List Nat} {es : Es} {g x : Expr} {pos : Pos} (h : mtS m (.par is es) (.Assign [g] x pos) = true) : PS X (.Assign [g] x pos) (RdS C X WE fo (.par is es)) := by
  cases g <;> first | (simp [mtS] at h; done) | skip
  rename_i gs kk gp
  cases x <;> first | (simp [mtS] at h; done) | skip
  rename_i xs k2 xp
  simp only [mtS, Bool.and_eq_true, Bool.or_eq_true, Bool.not_eq_true', decide_eq_true_eq] at h
  obtain ⟨⟨⟨⟨⟨⟨⟨h1, h2⟩, h3⟩, h4⟩, h5⟩, h6⟩, h7⟩, h8⟩ := h
  have rdA : ∀ D σ H, RdS C X WE fo (.par is es) D σ H → RdA C X WE es σ H fun vs H1 => ∃ FF env st ds W μ, fo FF W ∧ SA X.K X.mg FF H1 W μ st ∧ RE X.K X.mg W μ σ env ∧ Rpas X.K X.mg W μ ds vs ∧ PtF X.K X.mg WE fo W μ (match setEs env is ds with
      | some e' => R.ok (.nx e') st
      | none => R.no) D := fun D σ H w => by
    refine (rdS_bnd (rel := relL X.K X.mg) (m := evEs C es) (f := fun en xs => (match setEs en is xs with
      | some e' => ret (.nx e')
      | none => no)) q.fm w).imp ?_
    rintro vs H1 ⟨FF, env, st, ds, W, μ, F, S, E, r, p⟩
    refine ⟨FF, env, st, ds, W, μ, F, S, E, r, ?_⟩
    cases e : setEs env is ds <;> rw [e] at p <;> exact p
  have nv := mtEs_nst h2
  have hk := blockKind_fn q
  have ix : ∀ {i j : Nat} {y z : Str}, m.N[i]? = some y → m.N[j]? = some z → i ≠ j → y ≠ z := fun {i j y z} a b n e => n (nodup_ix (N := m.N) c.nd a (e ▸ b))
  have len := namesB_len h1
  rcases h4 with h4 | h4
  · match gs, is, xs, h4, h3, len with
    | [g1, g2], [i1, i2], [v1, v2], _, _, _ =>
      cases g1 <;> first | (simp [namesB] at h1; done) | skip
      cases g2 <;> first | (simp [namesB] at h1; done) | skip
      rename_i y1 p1 y2 p2
      simp only [namesB, Bool.and_eq_true, decide_eq_true_eq] at h1
      obtain ⟨⟨a1, a2⟩, ⟨b1, b2⟩, _⟩ := h1
      have hij : i1 ≠ i2 := by
        intro e
        subst e
        simp at h6
      simp only [onLine, Bool.and_eq_true, beq_iff_eq, List.head?_cons, Option.map_some, Option.getD_some, Expr.pos] at h5
      refine (ps_par c.calm (c.hN ▸ c.nd) (by rw [c.hN]; exact a1) (by rw [c.hN]; exact b1) hij (by rw [c.hsc]; exact a2) (by rw [c.hsc]; exact b2) (sndEs c es _ h2)
        (sws2 hk (by rw [kindOf_sc c]; exact a2) (by rw [kindOf_sc c]; exact b2) h5.2.1 (ix a1 b1 hij) (nv _ (by simp)) (nv _ (by simp)) h7 h8)).imp ?_
      intro D σ H w
      refine (rdA D σ H w).imp ?_
      rintro vs H1 ⟨FF, env, st, ds, W, μ, F, S, E, r, p⟩
      cases ds with
      | nil => exact p.elim
      | cons d1 ds => cases ds with
        | nil => exact p.elim
        | cons d2 ds => cases ds with
          | cons _ _ => exact p.elim
          | nil =>
            obtain ⟨u1, r1, e1, q1, u2, r2, e2, q2, e3⟩ := r
            have e3 : r2 = [] := e3
            subst e3 e2 e1
            exact ⟨u1, u2, rfl, ptF_nx F S ((E.set q1).set q2) p⟩
  · match gs, is, xs, h4, h3, len with
    | [g1, g2, g3], [i1, i2, i3], [v1, v2, v3], _, _, _ =>
      cases g1 <;> first | (simp [namesB] at h1; done) | skip
      cases g2 <;> first | (simp [namesB] at h1; done) | skip
      cases g3 <;> first | (simp [namesB] at h1; done) | skip
      rename_i y1 p1 y2 p2 y3 p3
      simp only [namesB, Bool.and_eq_true, decide_eq_true_eq] at h1
      obtain ⟨⟨a1, a2⟩, ⟨b1, b2⟩, ⟨c1, c2⟩, _⟩ := h1
      have hij : i1 ≠ i2 ∧ i1 ≠ i3 ∧ i2 ≠ i3 := by
        simp only [List.nodup_cons, List.mem_cons, List.not_mem_nil, or_false, not_or] at h6
        exact ⟨h6.1.1, h6.1.2, h6.2.1⟩
      obtain ⟨n1, n2, n3⟩ := hij
      simp only [onLine, Bool.and_eq_true, beq_iff_eq, List.head?_cons, Option.map_some, Option.getD_some, Expr.pos] at h5
      refine (ps_par3 c.calm (c.hN ▸ c.nd) (by rw [c.hN]; exact a1) (by rw [c.hN]; exact b1) (by rw [c.hN]; exact c1) n1 n2 n3 (by rw [c.hsc]; exact a2) (by rw [c.hsc]; exact b2) (by rw [c.hsc]; exact c2) (sndEs c es _ h2)
        (sws3 hk (by rw [kindOf_sc c]; exact a2) (by rw [kindOf_sc c]; exact b2) (by rw [kindOf_sc c]; exact c2) h5.2.1 h5.2.2.1 (ix a1 b1 n1) (ix a1 c1 n2) (ix b1 c1 n3) (nv _ (by simp)) (nv _ (by simp)) (nv _ (by simp)) h7 h8)).imp ?_
      intro D σ H w
      refine (rdA D σ H w).imp ?_
      rintro vs H1 ⟨FF, env, st, ds, W, μ, F, S, E, r, p⟩
      cases ds with
      | nil => exact p.elim
      | cons d1 ds => cases ds with
        | nil => exact p.elim
        | cons d2 ds => cases ds with
          | nil => exact p.elim
          | cons d3 ds => cases ds with
            | cons _ _ => exact p.elim
            | nil =>
              obtain ⟨u1, r1, e1, q1, u2, r2, e2, q2, u3, r3, e3, q3, e4⟩ := r
              have e4 : r3 = [] := e4
              subst e4 e3 e2 e1
              exact ⟨u1, u2, u3, rfl, ptF_nx F S (((E.set q1).set q2).set q3) p⟩
end
end Ev
end
section
set_option Elab.async false
set_option linter.all false
set_option maxRecDepth 100000
set_option maxHeartbeats 4000003
namespace Ev
open PySem PySem.Spec PyProof.Rows L2
variable [Gh]
section
variable {C : Cx'} {m : MC} {X : Cx} {WE : WX} {k : Nat} {fo : FO}
/-- one turn of a for loop -/
def forB (C : Cx') (t : Tg) (b : Ss) (x : Ev.D) (e : En) : M Fl := match asgP t x e with
  | some e' => evSs C b e'
  | none => no
theorem evS_for (t : Tg) (it : Ev.It) (b : Ss) (e : En) : evS C (.for_ t it b) e = bnd (evIt C it e) fun xs => loopF (forB C t b) xs e := rfl
theorem PtF.loop {K : PySem.W.Frag} {mg : Str → Option Value} {W : Vw} {μ : List Addr} {st : Sto} {D : Ends} {mm : M Fl} {f : En → M Fl} {N : L2.St → Hp → Prop}
    (hN : ∀ FF' σ' H' W' μ' e' st', fo FF' W' → SA K mg FF' H' W' μ' st' → Ex2 W μ W' μ' → RE K mg W' μ' σ' e' → PtF K mg WE fo W' μ' (f e' st') D → N σ' H')
    (h : PtF K mg WE fo W μ (bnd mm (fun o => match o with
      | .nx e' => f e'
      | .ct e' => f e'
      | .bk e' => ret (.nx e')
      | .rt d => ret (.rt d)) st) D) : PtF K mg WE fo W μ (mm st) { D with nx := N, ct := N, bk := D.nx } := by
  unfold bnd at h
  cases e : mm st with
  | ok r st1 =>
    rw [e] at h
    intro FF' σ' H' W' μ' F s x
    cases r with
    | nx e' => exact fun z => hN FF' σ' H' W' μ' e' st1 F s x z (PtF.mono x h)
    | ct e' => exact fun z => hN FF' σ' H' W' μ' e' st1 F s x z (PtF.mono x h)
    | bk e' => exact fun z => h FF' σ' H' W' μ' F s x z
    | rt d => exact fun v z => h FF' σ' H' W' μ' F s x v z
  | exc y st1 =>
    rw [e] at h
    exact h
  | no =>
    rw [e] at h
    exact h
theorem s_for (c : CtxOk C m X WE k) (q : StmOk m X fo) {t : Tg} {it : Ev.It} {b : Ss} {g i : Expr} {p : List Stmt} {pos : Pos} (hs : nset i = true) (hg : PG X g (gP X.K X.mg (List.range m.N.length) t)) (hi : PI X g i (rd X.K X.mg WE (relI X.K X.mg) (evIt C it))) (hb : PSs X p (RdSs C X WE fo b)) :
    PS X (.For g i p [] pos) (RdS C X WE fo (.for_ t it b)) := by
  refine (ps_for q.own c.calm hi hg hb (nset_for hs X.env)).imp ?_
  intro D σ H w
  refine (rdS_bnd (rel := relI X.K X.mg) (m := evIt C it) (f := fun en xs => loopF (forB C t b) xs en) q.fm w).imp ?_
  rintro J H1 ⟨FF, env, st, xs, W, μ, F, S, E, rj, p⟩
  let Wv : Nat → Nat → L2.St → Hp → Prop := fun i n σ H => n = xs.length - i ∧ i ≤ xs.length ∧ ∃ FF env st W' μ', fo FF W' ∧ SA X.K X.mg FF H W' μ' st ∧ RE X.K X.mg W' μ' σ env ∧ LeW W W' ∧ PtF X.K X.mg WE fo W' μ' (loopF (forB C t b) (xs.drop i) env st) D
  refine ⟨Wv, ⟨_, rfl, Nat.zero_le _, FF, env, st, W, μ, F, S, E, LeW.refl _, by simpa using p⟩, ?_⟩
  rintro i n σ H ⟨rfl, hle, FF, env, st, W', μ', F, S, E, le, p⟩
  obtain ⟨j1, j2⟩ := rj i FF H W' μ' st le S
  by_cases hlt : i < xs.length
  · refine .inr ?_
    obtain ⟨d, hd⟩ : ∃ d, xs[i]? = some d := ⟨xs[i], by simp [hlt]⟩
    obtain ⟨j3, j4⟩ := j2 d hd
    have hdrop : xs.drop i = d :: xs.drop (i + 1) := by
      rw [List.drop_eq_getElem_cons hlt]
      congr 1
      have := List.getElem?_eq_getElem hlt
      rw [hd] at this
      exact (Option.some.inj this).symm
    rw [hdrop] at p
    refine ⟨j3, fun σ' H' => Wv (i + 1) (xs.length - (i + 1)) σ' H', fun σ' H' z => ⟨_, by omega, z⟩, fun x H' y => ?_⟩
    obtain ⟨W2, S2, x2, rx⟩ := j4 x H' y
    have p : PtF X.K X.mg WE fo W' μ' (bnd (forB C t b d env) (fun o => match o with
      | .nx e' => loopF (forB C t b) (xs.drop (i + 1)) e'
      | .ct e' => loopF (forB C t b) (xs.drop (i + 1)) e'
      | .bk e' => ret (.nx e')
      | .rt d => ret (.rt d)) st) D := p
    have p2 := PtF.loop (N := fun σ' H' => Wv (i + 1) (xs.length - (i + 1)) σ' H') (fun FF' σ' H' W3 μ3 e' st' F3 S3 x3 E3 p3 => ⟨rfl, hlt, FF', e', st', W3, μ3, F3, S3, E3, (le.trans x2.w).trans x3.w, p3⟩) (PtF.mono x2 p)
    unfold forB at p2
    cases ea : asgP t d env with
    | none => rw [ea] at p2; exact False.elim p2
    | some e' =>
      rw [ea] at p2
      exact ⟨FF, env, st, W2, μ', d, e', S2, E.mono x2, rx, ea, fun σ2 E2 _ _ => ⟨FF, e', st, W2, μ', q.fm _ _ _ x2.w F, S2, E2, p2⟩⟩
  · have e : i = xs.length := by omega
    subst e
    refine .inl ⟨j1 rfl, ?_⟩
    rw [List.drop_length] at p
    exact ptF_nx F S E p
theorem s_whl (c : CtxOk C m X WE k) (q : StmOk m X fo) {t : T} {b : Ss} {g : Expr} {p : List Stmt} {pos : Pos} (hc : PT X g (RdT C X WE t)) (hb : PSs X p (RdSs C X WE fo b)) : PS X (.While g p [] pos) (RdS C X WE fo (.whl t b)) := by
  refine (ps_while q.own hc hb).imp ?_
  rintro D σ H ⟨FF, env, st, W, μ, F, S, E, p⟩
  let Wv : Nat → L2.St → Hp → Prop := fun n σ H => ∃ FF env st W' μ', fo FF W' ∧ SA X.K X.mg FF H W' μ' st ∧ RE X.K X.mg W' μ' σ env ∧ PtF X.K X.mg WE fo W' μ' (loopW (evT C t) (evSs C b) n env st) D
  refine ⟨Wv, ⟨C.wf, FF, env, st, W, μ, F, S, E, p⟩, ?_⟩
  rintro n σ H ⟨FF, env, st, W, μ, F, S, E, p⟩
  cases n with
  | zero => exact False.elim p
  | succ n =>
    refine ⟨FF, env, st, W, μ, S, E, (ptF_bnd (rel := relB) q.fm F p).imp ?_⟩
    rintro r H1 ⟨r', st1, W1, μ1, F1, S1, x1, hr, p⟩
    obtain rfl : r' = r := hr
    cases r' with
    | false =>
      rw [if_neg (by simp)]
      exact ptF_nx F1 S1 (E.mono x1) p
    | true =>
      rw [if_pos rfl]
      exact ⟨Wv n, fun σ' H' z => ⟨n, Nat.lt_succ_self n, z⟩, FF, env, st1, W1, μ1, F1, S1, E.mono x1, PtF.loop (N := Wv n) (fun FF' σ' H' W3 μ3 e' st' F3 S3 x3 E3 p3 => ⟨FF', e', st', W3, μ3, F3, S3, E3, p3⟩) p⟩
theorem s_ite (c : CtxOk C m X WE k) (q : StmOk m X fo) {t : T} {a b : Ss} {g : Expr} {p p' : List Stmt} {pos : Pos} (hc : PT X g (RdT C X WE t)) (ha : PSs X p (RdSs C X WE fo a)) (hb : PSs X p' (RdSs C X WE fo b)) : PS X (.If g p p' pos) (RdS C X WE fo (.ite t a b)) := by
  refine (ps_if hc ha hb).imp ?_
  intro D σ H w
  refine (rdS_bnd (rel := relB) (m := evT C t) (f := fun en r => (match r with
    | true => evSs C a en
    | false => evSs C b en)) q.fm w).imp ?_
  rintro r H1 ⟨FF, env, st, r', W, μ, F, S, E, hr, p⟩
  obtain rfl : r' = r := hr
  cases r' with
  | true =>
    rw [if_pos rfl]
    exact ⟨FF, env, st, W, μ, F, S, E, p⟩
  | false =>
    rw [if_neg (by simp)]
    exact ⟨FF, env, st, W, μ, F, S, E, p⟩
theorem s_rtn (c : CtxOk C m X WE k) (q : StmOk m X fo) {e : Ev.E} {g : Expr} {pos : Pos} (hc : PE X g (RdE C X WE e)) : PS X (.Return (some g) pos) (RdS C X WE fo (.rtn e)) := by
  refine (ps_ret hc).imp ?_
  intro D σ H w
  refine (rdS_bnd (rel := relA X.K X.mg) (m := evE C e) (f := fun en d => ret (.rt d)) q.fm w).imp ?_
  rintro v H1 ⟨FF, env, st, d, W, μ, F, S, E, r, p⟩
  exact p FF σ H1 W μ F S (Ex2.refl _ _) v r
theorem s_rtnN (c : CtxOk C m X WE k) (q : StmOk m X fo) {pos : Pos} : PS X (.Return none pos) (RdS C X WE fo .rtnN) := by
  refine ps_retN.imp ?_
  rintro D σ H ⟨FF, env, st, W, μ, F, S, E, p⟩
  exact p FF σ H W μ F S (Ex2.refl _ _) .non (by simp only [Rpa, Rp])
theorem s_exp (c : CtxOk C m X WE k) (q : StmOk m X fo) {e : Ev.E} {g : Expr} {pos : Pos} (hn : nlc g = true) (hc : PE X g (RdE C X WE e)) : PS X (.Expr g pos) (RdS C X WE fo (.exp e)) := by
  refine (ps_expr hc (nlc_swap hn _ _ _)).imp ?_
  intro D σ H w
  refine (rdS_bnd (rel := relA X.K X.mg) (m := evE C e) (f := fun en d => ret (.nx en)) q.fm w).imp ?_
  rintro v H1 ⟨FF, env, st, d, W, μ, F, S, E, r, p⟩
  exact ptF_nx F S E p
theorem s_pass (c : CtxOk C m X WE k) (q : StmOk m X fo) {pos : Pos} : PS X (.Pass pos) (RdS C X WE fo .pass) := by
  refine ps_pass.imp ?_
  rintro D σ H ⟨FF, env, st, W, μ, F, S, E, p⟩
  exact ptF_nx F S E p
theorem s_brk (c : CtxOk C m X WE k) (q : StmOk m X fo) {pos : Pos} : PS X (.Break pos) (RdS C X WE fo .brk) := by
  refine ps_break.imp ?_
  rintro D σ H ⟨FF, env, st, W, μ, F, S, E, p⟩
  exact p FF σ H W μ F S (Ex2.refl _ _) E
theorem s_cont (c : CtxOk C m X WE k) (q : StmOk m X fo) {pos : Pos} : PS X (.Continue pos) (RdS C X WE fo .cont) := by
  refine ps_continue.imp ?_
  rintro D σ H ⟨FF, env, st, W, μ, F, S, E, p⟩
  exact p FF σ H W μ F S (Ex2.refl _ _) E
end
end Ev
end
section
set_option Elab.async false
set_option linter.all false
set_option maxRecDepth 100000
set_option maxHeartbeats 4000003
namespace Ev
open PySem PySem.Spec PyProof.Rows L2
variable [Gh]
section
variable {C : Cx'} {m : MC} {X : Cx} {WE : WX} {k : Nat} {fo : FO}
theorem rps_len {K : PySem.W.Frag} {mg : Str → Option Value} {W : Vw} {ds : List Ev.D} {vs : List V} (h : Rps K mg W ds vs) : vs.length = ds.length := h.length.symm
/-- the fields of what is raised -/
theorem xd_look {K : PySem.W.Frag} {mg : Str → Option Value} {W : Vw} : ∀ {fs : List Str} {ds : List Ev.D} {vs : List V}, fs.length = ds.length → Rps K mg W ds vs → ∀ f d, lkF fs ds f = some d → ∃ v, (fs.zip vs).lookup f = some v ∧ Rp K mg W d v
  | [], _, _, _, _, f, d, h => by simp [lkF] at h
  | g :: fs, [], _, l, _, _, _, _ => by simp at l
  | g :: fs, x :: ds, vs, l, r, f, d, h => by
    simp only [Rps] at r
    obtain ⟨v, us, rfl, r1, r2⟩ := r
    simp only [lkF] at h
    split at h
    · rename_i e
      cases h
      subst e
      exact ⟨v, by simp, r1⟩
    · rename_i e
      obtain ⟨u, h1, h2⟩ := xd_look (by simpa using l) r2 f d h
      refine ⟨u, ?_, h2⟩
      rw [List.zip_cons_cons, List.lookup_cons]
      have : (f == g) = false := by simpa using fun z => e z.symm
      rw [this]
      exact h1
theorem look_rev {fs : List Str} {vs : List V} (n : fs.Nodup) (f : Str) : (fs.zip vs).reverse.lookup f = (fs.zip vs).lookup f := by
  induction fs generalizing vs with
  | nil => rfl
  | cons g fs ih =>
    cases vs with
    | nil => rfl
    | cons v vs =>
      rw [List.zip_cons_cons, List.reverse_cons, List.lookup_append, ih (List.nodup_cons.mp n).2]
      by_cases e : f = g
      · subst e
        have nn : (fs.zip vs).lookup f = none := by
          cases hl : (fs.zip vs).lookup f with
          | none => rfl
          | some w => exact absurd (List.of_mem_zip (PySem.mem_of_lookup hl)).1 (List.nodup_cons.mp n).1
        rw [nn]
        simp [List.lookup_cons]
      · have ne : (f == g) = false := by simpa using e
        have r1 : List.lookup f ((g, v) :: fs.zip vs) = List.lookup f (fs.zip vs) := by
          rw [List.lookup_cons, ne]
        have r2 : List.lookup f [(g, v)] = none := by
          rw [List.lookup_cons, ne]
          rfl
        rw [r1, r2]
        cases (fs.zip vs).lookup f <;> rfl
theorem s_rse (c : CtxOk C m X WE k) (q : StmOk m X fo) {cn : Str} {es : Es} {xs : List Expr} {p pos rp : Pos} (hf : m.exn.contains cn = true) (hg : gloB m cn cn = true) (hm : mtEs m es xs = true) (hne : xs ≠ []) (ih : PA X xs (RdA C X WE es)) :
    PS X (.Raise (some (.Call (.Name cn p) xs [] pos)) none rp) (RdS C X WE fo (.rse cn es)) := by
  obtain ⟨_, g1, g2, _⟩ := c.gl hg
  obtain ⟨fs, hfs, ⟨A, fI, fd, ps, hA, oe, xf, hno, iC, tI, F1, hb, nd, h900⟩⟩ := c.exc cn (by simpa using hf)
  cases xs with
  | nil => exact absurd rfl hne
  | cons y ys =>
    cases es with
    | nil => simp [mtEs] at hm
    | cons ce cr =>
      simp only [mtEs, Bool.and_eq_true] at hm
      have pm : PMk X (.Call (.Name cn p) (y :: ys) [] pos) (tMkO A (spX X.K A fs) [] (RdA C X WE (.cons ce cr))) :=
        pmk_oex oe iC tI F1 (c.room.r.mono c.k2) hb .nil C8.pass0 g1 hA ih g2 (nst_each hm.1.2 ys X.env) (by rw [back_any, nst_all X.env hm.2])
      refine (ps_raise c.calm c.tk pm).imp ?_
      intro D σ H w
      refine (rd_len (rdS_bnd (rel := relL X.K X.mg) (m := evEs C (.cons ce cr)) (f := fun en xs => bnd (frzDs xs) fun xs => (match C.exs cn with
        | some fs => if decide (fs.length = xs.length) then thr ⟨cn, fs, xs⟩ else no
        | none => no)) q.fm w)).imp ?_
      rintro vs H1 ⟨hv, FF, env, st, ds, W, μ, F, S, E, r, p⟩
      obtain ⟨ds', st', W', F', S', x', rp, p⟩ := ptF_frzs q.fm F S r p
      rw [hfs] at p
      dsimp only at p
      split at p
      · rename_i hl
        have hl := of_decide_eq_true hl
        have lv : vs.length = fs.length := by rw [rps_len rp, hl]
        refine ⟨by omega, fun a na => ?_⟩
        rw [List.append_nil]
        refine ⟨a, vs, rfl, lv, upd_same, fun d H2 n ne e1 e2 e3 => ⟨rfl, d, _, e1, e2, ?_, ?_⟩⟩
        · rw [upd_ne ne] at n
          exact n
        · rw [upd_ne ne] at n
          have eh : upd (L2.del H2 a) d (.xd ((fs.zip vs).reverse)) = upd H1 d (.xd ((fs.zip vs).reverse)) := by
            funext b
            by_cases b1 : b = d
            · rw [b1, upd_same, upd_same]
            · rw [upd_ne b1, upd_ne b1]
              by_cases b2 : b = a
              · rw [b2, del_same, na]
              · rw [del_ne b2, e3 b b2 b1, upd_ne b2]
          rw [eh]
          have le := LeW.put (o := .xd ((fs.zip vs).reverse)) (S'.gnone n)
          refine p FF σ _ _ _ _ _ (q.fm _ _ _ le F') (S'.put n) ⟨le, [], by simp⟩ ⟨A, d, _, rfl, hA, rfl, upd_same, fun f dd h => ?_⟩
          obtain ⟨u, h1, h2⟩ := xd_look hl rp f dd h
          exact ⟨u, by rw [look_rev nd]; exact h1, h2.mono le⟩
      · exact False.elim p
end
/-! ### try: body, except X as n: .. , several clauses -/
abbrev Clz := Value × (Addr → Value → Option Addr → TS)
def endsN (D : Ends) (i : Nat) : Ends := ⟨fun τ G => D.nx (τ.set i none) G, D.rt, fun τ G => D.bk (τ.set i none) G, fun τ G => D.ct (τ.set i none) G⟩
def wHs (K : PySem.W.Frag) (Wo : WX) (D : Ends) (i : Nat) : List Clz → WX
  | [] => Wo
  | z :: r => fun cls d τ G => ∃ b, PySem.W.exmOne K cls z.1 = some b ∧ (b = true → ∀ a, G a = none → z.2 a cls d (endsN D i) (τ.set i (some (.ref a))) G) ∧ (b = false → wHs K Wo D i r cls d τ G)
inductive HsOk (X : Cx) (n : Str) : List ExceptHandler → List Clz → Prop
  | nil : HsOk X n [] []
  | cons {x : Str} {z : Clz} {b1 : Stmt} {su : List Stmt} {q1 q2 : Pos} {hr : List ExceptHandler} {r : List Clz} (nm : Names X x z.1)
      (run : ∀ (a : Addr) (oe : Obj) (cls : Value) (d : Option Addr) (pl : List (Addr × Obj)), Zc cls d oe → (∃ vs, oe.data = .fields vs) → PSs (X.suite a ((a, oe) :: pl)) (b1 :: su) (z.2 a cls d)) (t : HsOk X n hr r) :
      HsOk X n (.ExceptHandler (some (.Name x q1)) (some n) (b1 :: su) q2 :: hr) (z :: r)
section
variable {X : Cx} {n : Str} {i : Nat} {body : List Stmt} {h1 : ExceptHandler} {hr : List ExceptHandler} {l : List Clz} {pos : Pos} {tb : WX → TS} {Wo : WX}
theorem ps_trys (stk : X.stack = X.env :: X.outer) (fr : X.env.frame = some X.env.locals) (nd : X.N.Nodup) (hi : X.N[i]? = some n) (loc : X.env.kindOf n = some .local) (tk : Takes X Wo)
    (hb : ∀ (W : WX) (pl : List (Addr × Obj)) (xe : Value → Shared → Prop), Takes (X.tr pl xe) W → PassesOwn (model X.prog X.w) X.A X.env xe → PSs (X.tr pl xe) body (tb W)) (hh : HsOk X n (h1 :: hr) l) :
    PS X (.Try body (h1 :: hr) [] [] pos) (fun D σ H => tb (fun cls d τ G => τ.length = X.N.length → wHs X.K Wo D i l cls d τ G) D σ H) := by
  refine ⟨fun pins s σ H D I h => wpAny_Try_except ?_⟩
  have okX := I.ok
  have hN : Loc X.env.scope n := .inl loc
  refine wpAny_mono ((hb (fun cls d τ G => τ.length = X.N.length → wHs X.K Wo D i l cls d τ G) (X.pn ++ pins) _ ?_ PassesOwn.looking).run [] s σ H D (I.toTry _) h) ?_ (fun _ _ z => z)
  · intro u s' xx
    obtain ⟨a, B, s0, pins', τ, G, cls, d, rfl, J', nb, up, sky, na, os, ag, w⟩ := xx
    have J : Inv X pins τ G s0 := J'.ofTry okX
    have sky2 : Sky B (X.env :: X.outer) a (Zc cls d) X.env.locals s'.heap := stk ▸ sky
    refine Sky.land Zc.steady (by rw [okX.frames, stk]) fr sky2 fun g3 fl3 up3 => ?_
    have J3 : Inv X pins τ G { s' with heap := g3 } := J.landed nb fl3.1 (up.trans up3) os ag
    obtain ⟨oe3, vs3, e3, z3, d3⟩ := fl3.there
    have out : a ∉ frs (X.env :: X.outer) := fun hm => by
      obtain ⟨_, o', e', nf⟩ := fl3.2.2.1.mem hm
      cases e3.symm.trans e'
      exact nf _ d3
    have nL : a ≠ X.env.locals := fun z => out (List.mem_filterMap.mpr ⟨X.env, List.mem_cons_self, by rw [fr, z]⟩)
    have nF : a ∉ X.fs := fun hm => by
      obtain ⟨e, he, hq⟩ := List.mem_filterMap.mp hm
      exact out (List.mem_filterMap.mpr ⟨e, List.mem_cons_of_mem _ he, hq⟩)
    have S3 := J3.suite e3 d3 na nL nF
    have LT : PySem.W.Looks (model X.prog X.w) g3 (typeOf (.ref a)) cls := fun A Q E s k q => wpAny_typeOf_ref (k _ _ e3) (by rw [z3.1]; exact q)
    have step : ∀ {hs' : List ExceptHandler} {l' : List Clz}, HsOk X n hs' l' → wHs X.K Wo D i l' cls d τ G → wpAny (model X.prog X.w) X.A (handleBy (.ref a) X.env hs') (SP X pins D) X.xe { s' with heap := g3 } := by
      intro hs' l' hk
      induction hk with
      | nil =>
        intro w
        obtain ⟨_, _, _, oe, vs, T, oT, ts', he, hz, hd, e1, _⟩ := id fl3
        have up4 : wpAny (model X.prog X.w) X.A (setFlight (.ref a) X.env.frame) (fun _ s4 => wpAny (model X.prog X.w) X.A (throw (.ref a) : Sem Flow) (SP X pins D) X.xe s4) X.xe { s' with heap := g3 } := by
          rw [fr]
          exact HandSPX.setFlight_upZ fl3 fun g4 q4 u4 => wpAny_throw (tk _ _ ⟨a, B, s0, pins, τ, G, cls, d, rfl, J, nb, (up.trans up3).trans u4, .inr (.inr (by rw [stk]; exact q4)), na, os, ag, w⟩)
        refine wpAny_handleBy_nil ?_
        unfold PySem.passOn
        refine wpAny_bind (wpAny_field he hd e1 ?_)
        rw [if_neg (by simp : ¬ ((Value.ref T == Value.none) = true))]
        first
          | exact wpAny_bind (wpAny_pure (wpAny_bind up4))
          | exact wpAny_bind up4
      | @cons x z b1 su q1 q2 hr2 r2 nm run t ih =>
        rintro ⟨b, eb, yes, nope⟩
        refine wpAny_handleBy_cons (codeAny_handlers_test ?_) (by intro q; cases q)
        have look : ∀ {Q : Value → Shared → Prop} {E : Value → Shared → Prop}, Q z.1 { s' with heap := g3 } → wpAny (model X.prog X.w) (X.A.mark (some (.ref a))) (eval (.Name x q1) X.env) Q E { s' with heap := g3 } := fun {Q E} q => by
          obtain ⟨hg, hdb, hm | ⟨hm, hv, hnn⟩⟩ := nm
          · exact ld_glob (X := X.suite a ((a, oe3) :: (X.pn ++ pins))) S3 hg hm q hdb
          · exact ld_blt (X := X.suite a ((a, oe3) :: (X.pn ++ pins))) S3 hg hm hv q hnn hdb
        refine look ((PySem.W.exm_one (M := model X.prog X.w) J3.kIn LT eb).here ?_)
        cases b with
        | false => exact ih (nope rfl)
        | true =>
          refine codeAny_handlers_suite_as (HandSPX.lands_againZ fl3 fun g4 fl4 up4 => ?_)
          have J4 : Inv X pins τ G { s' with heap := g4 } := J.landed nb fl4.1 ((up.trans up3).trans up4) os ag
          obtain ⟨oe4, vs4, e4, z4, d4⟩ := fl4.there
          refine store_ok (X := X.suite a ((a, oe4) :: (X.pn ++ pins))) (v := .ref a) (J4.suite e4 d4 na nL nF) nd hi hN rfl (fun s5 S5 => ?_) (.inr loc)
          have bye : ∀ {s6 : Shared} {τ6 : L2.St} {G6 : Hp} {Q : Shared → Prop}, Inv (X.suite a ((a, oe4) :: (X.pn ++ pins))) [] τ6 G6 s6 → (∀ s7, Inv X pins (τ6.set i none) G6 s7 → Q s7) →
              wpAny (model X.prog X.w) X.A (do bindName X.env n .none; unbindBehindTheSuite X.env n q2) (fun _ s7 => Q s7) X.xe s6 := fun S6 hq => gone_ok (S6.unsuite okX) nd hi loc hq
          refine wpAny_mono ((run a oe4 cls d (X.pn ++ pins) z4 ⟨_, d4⟩).run [] s5 _ G _ S5 (yes rfl a na)) (fun f s6 hsp => ?_) (fun _ _ z => False.elim z)
          cases f with
          | ret u =>
            obtain ⟨v6, τ6, G6, S6, r6, q6⟩ := hsp
            exact bye S6 fun s7 J7 => ⟨_, _, _, J7, r6, q6⟩
          | next =>
            obtain ⟨τ6, G6, S6, q6⟩ := hsp
            exact bye S6 fun s7 J7 => ⟨_, _, J7, q6⟩
          | brk =>
            obtain ⟨τ6, G6, S6, q6⟩ := hsp
            exact bye S6 fun s7 J7 => ⟨_, _, J7, q6⟩
          | cont =>
            obtain ⟨τ6, G6, S6, q6⟩ := hsp
            exact bye S6 fun s7 J7 => ⟨_, _, J7, q6⟩
    exact step hh (w J.len)
  · intro f s1 hsp
    cases f with
    | ret u =>
      obtain ⟨v, τ, G, J', rv, q⟩ := hsp
      exact ⟨v, τ, G, J'.ofTry okX, rv, q⟩
    | next =>
      obtain ⟨τ, G, J', q⟩ := hsp
      exact wpAny_execs_nil ⟨τ, G, J'.ofTry okX, q⟩
    | brk =>
      obtain ⟨τ, G, J', q⟩ := hsp
      exact ⟨τ, G, J'.ofTry okX, q⟩
    | cont =>
      obtain ⟨τ, G, J', q⟩ := hsp
      exact ⟨τ, G, J'.ofTry okX, q⟩
end
/-! ### what a clause gives back -/
def tXfN (K : PySem.W.Frag) (a : Addr) (cls : Value) (d : Option Addr) (A : Addr) (f : Str) (te : TE) : TE := fun σ H Q => PySem.W.findIn K (.ref A) f = some none ∧ tXf a cls d A f te σ H Q
def tHnd (K : PySem.W.Frag) (i : Nat) (a : Addr) (cls : Value) (d : Option Addr) (A : Addr) : Es → TA
  | .nil => tNil
  | .cons (.c (.str s)) r => tCons (tC (.str s)) (tHnd K i a cls d A r)
  | .cons (.xf f) r => tCons (tXfN K a cls d A f (tVar i)) (tHnd K i a cls d A r)
  | _ => fun _ _ _ => False
section
variable {X : Cx} {n : Str} {i : Nat} {a A : Addr} {oe : Obj} {cls : Value} {d : Option Addr} {pl : List (Addr × Obj)}
theorem pa_hnd (T : XfC X.K A) (hi : X.N[i]? = some n) (loc : X.env.scope.names.lookup n = some .local) (u1 : (n == ("__debug__" : Str)) = false) (u2 : (n == ("__classdict__" : Str)) = false) (hz : Zc cls d oe) (hf : ∃ vs, oe.data = .fields vs) :
    ∀ {es : Es} {xs : List Expr}, mtX n es xs = true → PA (X.suite a ((a, oe) :: pl)) xs (tHnd X.K i a cls d A es)
  | .nil, xs, h => by
    cases xs with
    | nil => exact pa_nil
    | cons _ _ => simp [mtX] at h
  | .cons e r, xs, h => by
    cases xs with
    | nil => cases e <;> first | (simp [mtX] at h; done) | (rename_i k; cases k <;> simp [mtX] at h)
    | cons x xs =>
      cases e <;> first | (simp [mtX] at h; done) | skip
      · rename_i k
        cases k <;> first | (simp [mtX] at h; done) | skip
        cases x <;> first | (simp [mtX] at h; done) | skip
        rename_i v kk pos
        cases v <;> first | (simp [mtX] at h; done) | skip
        simp only [mtX, Bool.and_eq_true, decide_eq_true_eq] at h
        obtain ⟨rfl, h2⟩ := h
        exact pa_cons pe_str (pa_hnd T hi loc u1 u2 hz hf h2) rfl
      · rename_i f
        cases x <;> first | (simp [mtX] at h; done) | skip
        rename_i b g pos
        cases b <;> first | (simp [mtX] at h; done) | skip
        rename_i y yp
        simp only [mtX, Bool.and_eq_true, decide_eq_true_eq] at h
        obtain ⟨⟨rfl, ey⟩, h2⟩ := h
        have pv : PE (X.suite a ((a, oe) :: pl)) (.Name y yp) (tVar i) := by
          rw [ey]
          exact pe_var hi (.inl loc) u1 u2
        exact pa_cons (te := tXfN X.K a cls d A f (tVar i)) ⟨fun pins s σ H Q I ⟨hno, w⟩ => (pe_xf T hno hz hf pv rfl).run pins s σ H Q I w⟩ (pa_hnd T hi loc u1 u2 hz hf h2) rfl
end
/-- such a row has its data at once, and changes nothing -/
theorem hnd_ev {C : Cx'} {n : Str} {st : Sto} : ∀ {es : Es} {xs : List Expr}, mtX n es xs = true → (∃ ds, evEs C es [] st = .ok ds st) ∨ evEs C es [] st = .no
  | .nil, _, _ => .inl ⟨[], rfl⟩
  | .cons e r, [], h => by cases e <;> first | (simp [mtX] at h; done) | (rename_i k; cases k <;> simp [mtX] at h)
  | .cons e r, x :: xs, h => by
    have tail : ∀ (v : Ev.D), evE C e [] st = .ok v st → mtX n r xs = true → (∃ ds, evEs C (.cons e r) [] st = .ok ds st) ∨ evEs C (.cons e r) [] st = .no := fun v hv h2 => by
      have hd : evEs C (.cons e r) [] st = bnd (evEs C r []) (fun xs => ret (v :: xs)) st := bnd_ok (f := fun x => bnd (evEs C r []) fun xs => ret (x :: xs)) hv
      rw [hd]
      unfold bnd
      rcases hnd_ev (C := C) (st := st) h2 with ⟨ds, e2⟩ | e2
      · rw [e2]
        exact .inl ⟨_, rfl⟩
      · rw [e2]
        exact .inr rfl
    cases e <;> first | (simp [mtX] at h; done) | skip
    · rename_i k
      cases k <;> first | (simp [mtX] at h; done) | skip
      cases x <;> first | (simp [mtX] at h; done) | skip
      rename_i v kk pos
      cases v <;> first | (simp [mtX] at h; done) | skip
      simp only [mtX, Bool.and_eq_true, decide_eq_true_eq] at h
      exact tail _ rfl h.2
    · rename_i f
      cases x <;> first | (simp [mtX] at h; done) | skip
      rename_i b g pos
      cases b <;> first | (simp [mtX] at h; done) | skip
      simp only [mtX, Bool.and_eq_true, decide_eq_true_eq] at h
      have nope : evE C (.xf f) [] st = .no → (∃ ds, evEs C (.cons (.xf f) r) [] st = .ok ds st) ∨ evEs C (.cons (.xf f) r) [] st = .no := fun e1 => by
        refine .inr ?_
        show bnd (evE C (.xf f) []) _ st = .no
        unfold bnd
        rw [e1]
      cases hc : C.cur with
      | none => exact nope (by simp only [evE, hc]; rfl)
      | some x0 =>
        cases hk : lkF x0.fs x0.xs f with
        | none => exact nope (by simp only [evE, hc, hk]; rfl)
        | some v => exact tail v (by simp only [evE, hc, hk]; rfl) h.2
/-- .. and its values are read off the exception -/
theorem hnd_of {C : Cx'} {K : PySem.W.Frag} {mg : Str → Option Value} {FF : List (Addr × HO)} {H : Hp} {W : Vw} {μ : List Addr} {st : Sto} {σ : L2.St} {n : Str} {i : Nat} {a A aa : Addr} {x : Ex} {fs : List (Str × V)} {Q : List V → Hp → Prop} (S : SA K mg FF H W μ st) (hs : σ[i]? = some (some (.ref a)))
    (cur : C.cur = some x) (hg : W.G aa = some (.xd fs)) (hl : ∀ f d, lkF x.fs x.xs f = some d → ∃ v, fs.lookup f = some v ∧ Rp K mg W d v) (hno : ∀ f d, lkF x.fs x.xs f = some d → PySem.W.findIn K (.ref A) f = some none) :
    ∀ {es : Es} {xs : List Expr} {ds : List Ev.D}, mtX n es xs = true → evEs C es [] st = .ok ds st → (∀ vs, Rps K mg W ds vs → vs.length = xs.length → Q vs H) → tHnd K i a (.ref A) (some aa) A es σ H Q
  | .nil, xs, ds, h, e, q => by
    cases xs with
    | nil =>
      cases e
      exact q [] Rps.nil rfl
    | cons _ _ => simp [mtX] at h
  | .cons e r, [], ds, h, _, _ => by cases e <;> first | (simp [mtX] at h; done) | (rename_i k; cases k <;> simp [mtX] at h)
  | .cons e r, y :: xs, ds, h, ev, q => by
    obtain ⟨d0, s1, e1, ev⟩ := bnd_inv (f := fun x => bnd (evEs C r []) fun xs => ret (x :: xs)) ev
    cases e <;> first | (simp [mtX] at h; done) | skip
    · rename_i k
      cases k <;> first | (simp [mtX] at h; done) | skip
      cases y <;> first | (simp [mtX] at h; done) | skip
      rename_i v kk pos
      cases v <;> first | (simp [mtX] at h; done) | skip
      simp only [mtX, Bool.and_eq_true, decide_eq_true_eq] at h
      cases e1
      obtain ⟨dr, s2, e2, e3⟩ := bnd_inv ev
      cases e3
      exact hnd_of (Q := fun xs H2 => Q (_ :: xs) H2) S hs cur hg hl hno h.2 e2 fun vs rv lv => q _ (Rps.cons (by simp only [Cst.d, Rp]) rv) (by simp [lv])
    · rename_i f
      cases y <;> first | (simp [mtX] at h; done) | skip
      rename_i b g pos
      cases b <;> first | (simp [mtX] at h; done) | skip
      simp only [mtX, Bool.and_eq_true, decide_eq_true_eq] at h
      simp only [evE, cur] at e1
      cases e3 : lkF x.fs x.xs f with
      | none => rw [e3] at e1; cases e1
      | some d1 =>
        rw [e3] at e1
        cases e1
        obtain ⟨dr, s2, e2, e4⟩ := bnd_inv ev
        cases e4
        obtain ⟨v, hv, rv⟩ := hl f _ e3
        exact ⟨hno f _ e3, .ref a, hs, rfl, rfl, aa, fs, v, rfl, S.sub _ _ hg, hv, hnd_of (Q := fun xs H2 => Q (v :: xs) H2) S hs cur hg hl hno h.2 e2 fun vs rvs lv => q _ (Rps.cons rv rvs) (by simp [lv])⟩
section
variable {C : Cx'} {m : MC} {X : Cx} {WE : WX} {k : Nat} {fo : FO}
/-- a clause's reading -/
def tRow (K : PySem.W.Frag) (i : Nat) (A : Addr) (es : Es) (a : Addr) (cls : Value) (d : Option Addr) : TS := fun D σ H => i < σ.length → tRet (tTup (tHnd K i a cls d A es)) D σ H
theorem lkF_mem {x : Str} {d : Ev.D} : ∀ {fs : List Str} {ds : List Ev.D}, lkF fs ds x = some d → x ∈ fs
  | [], _, h => by simp [lkF] at h
  | _ :: _, [], h => by simp [lkF] at h
  | f :: fs, e :: ds, h => by
    simp only [lkF] at h
    split at h
    · rename_i z
      rw [← z]
      exact List.mem_cons_self
    · exact List.mem_cons_of_mem _ (lkF_mem h)
theorem hs_ok (c : CtxOk C m X WE k) (q : StmOk m X fo) {i : Nat} {n : Str} (hi : m.N[i]? = some n) (loc : m.sc.names.lookup n = some .local) (u1 : (n == ("__debug__" : Str)) = false) (u2 : (n == ("__classdict__" : Str)) = false) :
    ∀ {hs : Hs} {hds : List ExceptHandler}, mtHs m n hs hds = true → ∃ l, HsOk X n hds l ∧ ∀ (x : Ex) (st : Sto) (D : Ends) (W : Vw) (μ : List Addr), C.exs x.c = some x.fs → PtF X.K X.mg WE fo W μ (evHs C hs x st) D →
      ∀ FF' σ' H' W' μ' cls dd, fo FF' W' → SA X.K X.mg FF' H' W' μ' st → Ex2 W μ W' μ' → ExR X.K X.mg W' x cls dd → i < σ'.length → wHs X.K (fun cls dd σ H => WE cls dd σ H) D i l cls dd σ' H'
  | .nil, [], _ => ⟨[], .nil, fun x st D W μ _ p FF' σ' H' W' μ' cls dd F S x' r _ => p FF' σ' H' W' μ' cls dd F S x' r⟩
  | .nil, _ :: _, h => by simp [mtHs] at h
  | .cons cn e r, [], h => by cases e <;> simp [mtHs] at h
  | .cons cn e r, hd :: hds, h => by
    cases e <;> first | (simp [mtHs] at h; done) | skip
    rename_i es
    unfold mtHs at h
    split at h
    · rename_i e1 e2
      cases e1
    · rename_i cn' es' r' x np y xs kk tp rp hp hds' e1 e2
      cases e1
      cases e2
      simp only [Bool.and_eq_true, decide_eq_true_eq] at h
      obtain ⟨⟨⟨⟨⟨h1, h2⟩, rfl⟩, h3⟩, h4⟩, h5⟩ := h
      obtain ⟨e1, g1, g2, _⟩ := c.gl h1
      subst e1
      have hmem : cn ∈ m.exn := by simpa using h2
      obtain ⟨fs, hfs, ⟨A, fI, fd, ps, hA, oe, xf, hno, _⟩⟩ := c.exc cn hmem
      obtain ⟨l, hl, hq⟩ := hs_ok c q hi loc u1 u2 h5
      refine ⟨(.ref A, tRow X.K i A es) :: l, .cons ⟨g1, g2, .inl hA⟩ (fun a oe cls d pl hz hf => ?_) hl, ?_⟩
      · have ha := pa_hnd (a := a) (i := i) (pl := pl) xf (by rw [c.hN]; exact hi) (by rw [c.hsc]; exact loc) u1 u2 hz hf h3
        have hp := pss_one (ps_ret (pos := rp) (pe_tup (x1 := kk) (pos := tp) ha))
        refine ⟨fun pins s σ H D I w => hp.run pins s σ H D I (w ?_)⟩
        have := I.len
        rw [this]
        exact (List.getElem?_eq_some_iff.mp (show X.N[i]? = some y by rw [c.hN]; exact hi)).1
      · intro x st D W μ hx p FF' σ' H' W' μ' cls dd F S x' r hlen
        obtain ⟨Cx, aa, xfs, rfl, hmx, rfl, hG, hlk⟩ := id r
        refine ⟨_, c.exm x.c cn (by rw [hx]; rfl) hmem Cx A hmx hA, fun hb a na _ => ?_, fun hb => ?_⟩
        · have hb := of_decide_eq_true hb
          have eA : A = Cx := by
            rw [← hb, hmx] at hA
            cases hA
            rfl
          subst eA
          have p2 : PtF X.K X.mg WE fo W μ (bnd (evE { C with cur := some x } (.tup es) []) (fun d => ret (.rt d)) st) D := by
            have p' := p
            simp only [evHs] at p'
            rw [if_pos hb] at p'
            exact p'
          have p3 := PtF.mono x' p2
          have e0 : evE { C with cur := some x } (.tup es) [] = bnd (evEs { C with cur := some x } es []) fun xs => bnd (frzDs xs) fun xs => ret (.tup xs) := rfl
          rw [e0, bnd_bnd] at p3
          rcases hnd_ev (C := { C with cur := some x }) (st := st) h3 with ⟨ds, e1⟩ | e1
          · rw [bnd_ok e1] at p3
            have hxf : x.fs = fs := by
              rw [hb, hfs] at hx
              exact (Option.some.inj hx).symm
            refine hnd_of (C := { C with cur := some x }) (n := y) (xs := xs) (x := x) (aa := aa) (fs := xfs) S (List.getElem?_set_self hlen) rfl hG hlk (fun f d hf => hno f ?_) h3 e1 fun vs rv lv => ⟨by rw [lv]; exact Nat.le_trans h4 (Nat.le_trans (by decide) line1m), fun pT hpT => ?_⟩
            · rw [← hxf]
              exact lkF_mem hf
            · rw [bnd_bnd] at p3
              obtain ⟨ds', st', W2, F2, S2, x2, rp2, p4⟩ := ptF_frzs q.fm F S rv.as p3
              have le := LeW.put (o := .tup vs) (S2.gnone hpT)
              refine p4 FF' σ' _ _ _ (q.fm _ _ _ le F2) (S2.put hpT) ⟨le, [], by simp⟩ _ (Rp.a ?_)
              simp only [Rp]
              exact ⟨_, vs, rfl, SqT.of upd_same, rp2.mono le⟩
          · have : bnd (evEs { C with cur := some x } es []) (fun a => bnd (bnd (frzDs a) fun xs => ret (Ev.D.tup xs)) fun d => ret (Fl.rt d)) st = .no := by
              unfold bnd
              rw [e1]
            rw [this] at p3
            exact False.elim p3
        · have hb := of_decide_eq_false hb
          refine hq x st D W μ hx ?_ FF' σ' H' W' μ' _ _ F S x' r hlen
          have p' := p
          simp only [evHs] at p'
          rw [if_neg hb] at p'
          exact p'
    · cases h
theorem s_try (c : CtxOk C m X WE k) (q : StmOk m X fo) {i : Nat} {b : Ss} {hs : Hs} {p : List Stmt} {hds : List ExceptHandler} {pos : Pos} (h : mtS m (.try_ i b hs) (.Try p hds [] [] pos) = true)
    (hb : ∀ (W : WX) (pl : List (Addr × Obj)) (xe : Value → Shared → Prop), CtxOk C m (X.tr pl xe) W k → StmOk m (X.tr pl xe) fo → PSs (X.tr pl xe) p (RdSs C (X.tr pl xe) W fo b)) : PS X (.Try p hds [] [] pos) (RdS C X WE fo (.try_ i b hs)) := by
  simp only [mtS] at h
  split at h
  · rename_i n hi
    simp only [Bool.and_eq_true, decide_eq_true_eq, Bool.not_eq_true'] at h
    obtain ⟨⟨⟨⟨loc, hu⟩, h1⟩, h2⟩, h3⟩ := h
    unfold undB at hu
    simp only [Bool.and_eq_true, Bool.not_eq_true'] at hu
    obtain ⟨⟨u1, u2⟩, _⟩ := hu
    obtain ⟨l, hl, hq⟩ := hs_ok c q hi loc u1 u2 h2
    cases hds with
    | nil => cases h3
    | cons h0 hr =>
      refine (ps_trys (i := i) q.stk q.fr (c.hN ▸ c.nd) (by rw [c.hN]; exact hi) (by rw [kindOf_sc c]; exact loc) c.tk (tb := fun W => RdSs C X W fo b) (fun W pl xe tk po => ?_) hl).imp ?_
      · exact hb W pl xe ⟨c.hN, c.nd, c.hsc, c.calm, c.room, tk, c.tl, c.con, c.isa, c.cns, c.bn, c.gcd, c.fns, c.fnc, c.clo, c.clf, fun h => ⟨(c.top h).inv, (c.top h).get, (c.top h).fnT, (c.top h).sj, (c.top h).mkC⟩, c.k2, c.exc, c.exm⟩ ⟨q.kind, po, q.ts, q.fm, q.stk, q.fr⟩
      · rintro D σ H ⟨FF, env, st, W, μ, F, S, E, p⟩
        refine ⟨FF, env, st, W, μ, F, S, E, ?_⟩
        have p' : PtF X.K X.mg WE fo W μ (match evSs C b env st with
          | .ok fl s' => .ok fl s'
          | .exc x s' => if decide (C.exs x.c = some x.fs) then evHs C hs x s' else .no
          | .no => .no) D := p
        cases e : evSs C b env st with
        | ok fl s' =>
          rw [e] at p'
          exact p'
        | no =>
          rw [e] at p'
          exact False.elim p'
        | exc x s' =>
          rw [e] at p'
          dsimp only at p'
          split at p'
          · rename_i hx
            intro FF' σ' H' W' μ' cls dd F' S' x' r hlen
            refine hq x s' D W μ (of_decide_eq_true hx) p' FF' σ' H' W' μ' cls dd F' S' x' r ?_
            rw [hlen, c.hN]
            exact (List.getElem?_eq_some_iff.mp hi).1
          · exact False.elim p'
  · cases h
end
end Ev
end
section
set_option Elab.async false
set_option linter.all false
set_option maxRecDepth 100000
set_option maxHeartbeats 4000003
namespace Ev
open PySem PySem.Spec PyProof.Rows L2
variable [Gh]
/-- what is told of the table of code objects -/
def TblR (G : Hp) (q : Str) (ps : Array Value) : Prop := TriplesOk ps.toList ∧ ∀ (pos : Pos) (cv : Value), codeAmong pos ps.toList = some cv → ∃ c, cv = .ref c ∧ G c = some (LamX.CodeO c q) ∧ ∀ i a, Gh.S i = some a → a ≠ c
/-- the frame that makes closures: its table at P -/
def foT (P : Addr) (q : Str) : FO := fun FF W => ∃ ps, FF = [(P, .tbl ps)] ∧ TblR W.G q ps
theorem foT_mono {P : Addr} {q : Str} : ∀ FF W W', LeW W W' → foT P q FF W → foT P q FF W' := fun FF W W' le ⟨ps, e, t, h⟩ => ⟨ps, e, t, fun pos cv hc => (h pos cv hc).elim fun c z => ⟨c, z.1, le.g _ _ z.2.1, z.2.2⟩⟩
def tLam (P : Addr) (q : Str) (l : Nat) : TE := fun σ H Q => ∃ ps, H P = some (.tbl ps) ∧ TblR H q ps ∧ ∀ f o c' H1 ps', Gh.P l f o c' (LamX.CodeO c' q) → (∀ i a, Gh.S i = some a → a ≠ f ∧ a ≠ c') → H1 f = none → TriplesOk ps'.toList →
  (∀ pos cv, codeAmong pos ps'.toList = some cv → codeAmong pos ps.toList = some cv ∨ cv = .ref c') → ((ps' = ps ∧ H1 = H ∧ ∃ pos, codeAmong pos ps.toList = some (.ref c')) ∨ (H c' = none ∧ H1 = upd (upd H P (.tbl ps')) c' (LamX.CodeO c' q))) → Q (.ref f) (upd H1 f o)
section
variable {C : Cx'} {m : MC} {X : Cx} {WE : WX} {k : Nat}
theorem pe_lam (c : CtxOk C m X WE k) (T : TopOk m X) {P cc : Addr} {l : Nat} {par : Arguments} {b : Expr} {sc : Scope} {pos : Pos} (TB : LamX.TabB X.base X.mg cc P) (hcode : X.env.code = .ref cc) (h1 : noParB par = true) (h2 : lamB m.sc sc = true) (h3 : mtL m l b sc = true) :
    PE X (.Lambda par b sc pos) (tLam P (X.env.qual ++ "<lambda>") l) := by
  refine ⟨fun pins s σ H Q I ⟨ps, hP, ⟨ht, ha⟩, h⟩ => PySem.W.kla_eval ?_ ?_⟩
  · unfold noParB at h1
    split at h1
    · rfl
    · cases h1
  · have hfree : ∀ y ∈ sc.names, y.2 = .free → ∃ c, X.env.cells.lookup y.1 = some c := fun y hy e => by
      unfold lamB at h2
      simp only [Bool.and_eq_true, List.all_eq_true] at h2
      have := h2.2 y hy
      simp only [Bool.and_eq_true, Bool.or_eq_true, Bool.not_eq_true', decide_eq_true_eq, decide_eq_false_iff_not] at this
      rcases this.2 with z | z
      · exact absurd e z
      · exact I.ok.has _ (.inl (by unfold Env.kindOf; rw [c.hsc]; exact z))
    have bP : s.heap.BuiltinsAt X.mg P := TB.bm.keeps I.bk
    have hPh : s.heap.get? P = some { cls := .none, data := .fields ps } := I.hok P _ hP
    have avoid : ∀ {x : Addr}, s.heap.objs.size ≤ x → ∀ i a, Gh.S i = some a → a ≠ x := fun {x} hx i a hS e => by
      obtain ⟨y, _, hy⟩ := T.inv i a hS
      obtain ⟨v, hv⟩ := I.cell y a hy
      exact absurd (Nat.lt_of_lt_of_le hv.lt hx) (by rw [e]; exact Nat.lt_irrefl _)
    cases hc : codeAmong pos ps.toList with
    | none =>
      refine PySem.W.kla_makeFunction (mg := X.mg) (c := cc) (P := P) (ps := ps) (closure_ok hfree) I.ok.glob (I.mod.glob.keeps I.bk) hcode (TB.code.keeps I.bk) hPh ht hc TB.gP bP fun c' ctv h' tk hx hge hlt hrec htb => ?_
      obtain ⟨c2, oc, vs, t, e2, hoc, hd, hv⟩ := hrec
      cases e2
      have I1 := LamX.inv_table (t' := tk) (more := #[rawInt pos.line, rawInt pos.col, .ref c']) (h' := h') I hP hx htb hge ⟨oc, vs, t, hoc, hd, hv⟩
      have hsz : s.heap.objs.size ≤ h'.objs.size := Nat.le_trans hge (Nat.le_of_lt hlt)
      have nC : H c' = none := I.hok.fresh hge
      have hget : (h'.push (PySem.W.kla_obj "<lambda>" (X.env.qual ++ "<lambda>") par b sc (cloFrom X.env.cells sc.names []) ((X.mg "__name__").getD .none) c' ctv)).get? h'.objs.size = some (PySem.W.kla_obj "<lambda>" (X.env.qual ++ "<lambda>") par b sc (cloFrom X.env.cells sc.names []) ((X.mg "__name__").getD .none) c' ctv) := Heap.get?_push_size _ rfl
      have I2 := I1.laid (t' := tk) (a := h'.objs.size) (h' := h'.push (PySem.W.kla_obj "<lambda>" (X.env.qual ++ "<lambda>") par b sc (cloFrom X.env.cells sc.names []) ((X.mg "__name__").getD .none) c' ctv)) (fun b o e => Heap.get?_push_of_some _ e) (Nat.le_refl _) (cell_ok hget)
      have eL : (ps ++ #[rawInt pos.line, rawInt pos.col, .ref c']).toList = ps.toList ++ [rawInt pos.line, rawInt pos.col, .ref c'] := by simp
      refine ⟨.ref h'.objs.size, _, I2, rfl, h h'.objs.size _ c' _ (ps ++ #[rawInt pos.line, rawInt pos.col, .ref c']) (T.mkC l _ par b sc _ c' ctv h1 h2 h3) (fun i a hS => ⟨avoid hsz i a hS, avoid hge i a hS⟩) ?_ (by rw [eL]; exact PySem.TriplesOk_snoc _ _ _ _ ht) (fun p cv hcv => ?_) (.inr ⟨nC, rfl⟩)⟩
      · exact I1.hok.fresh (Nat.le_refl _)
      · rw [eL] at hcv
        exact LamX.among_app (pos := pos) _ ht hcv
    | some cv =>
      obtain ⟨c', e, hco, hav⟩ := ha pos cv hc
      subst e
      refine PySem.W.kla_makeFunctionHit (mg := X.mg) (c := cc) (P := P) (ps := ps) (closure_ok hfree) I.ok.glob (I.mod.glob.keeps I.bk) hcode (TB.code.keeps I.bk) hPh ht hc bP fun ctv h' tk hx hsz => ?_
      have hget : (h'.push (PySem.W.kla_obj "<lambda>" (X.env.qual ++ "<lambda>") par b sc (cloFrom X.env.cells sc.names []) ((X.mg "__name__").getD .none) c' ctv)).get? h'.objs.size = some (PySem.W.kla_obj "<lambda>" (X.env.qual ++ "<lambda>") par b sc (cloFrom X.env.cells sc.names []) ((X.mg "__name__").getD .none) c' ctv) := Heap.get?_push_size _ rfl
      have I2 := I.laid (t' := tk) (a := h'.objs.size) (h' := h'.push (PySem.W.kla_obj "<lambda>" (X.env.qual ++ "<lambda>") par b sc (cloFrom X.env.cells sc.names []) ((X.mg "__name__").getD .none) c' ctv)) (fun b o e => Heap.get?_push_of_some _ (hx b o e)) hsz (cell_ok hget)
      exact ⟨.ref h'.objs.size, _, I2, rfl, h h'.objs.size _ c' _ ps (T.mkC l _ par b sc _ c' ctv h1 h2 h3) (fun i a hS => ⟨avoid hsz i a hS, hav i a hS⟩) (I.hok.fresh hsz) ht (fun p cv hcv => .inl hcv) (.inl ⟨rfl, rfl, pos, hc⟩)⟩
/-- behind a closure's making -/
theorem lam_sa {FF : List (Addr × HO)} {H : Hp} {W : Vw} {μ : List Addr} {st : Sto} {P : Addr} {q : Str} {l : Nat} (F : foT P q FF W) (S : SA X.K X.mg FF H W μ st) {Q : VK}
    (h : ∀ f FF' H' W', foT P q FF' W' → SA X.K X.mg FF' H' W' μ st → Ex2 W μ W' μ → Rp X.K X.mg W' (.clo l) (.ref f) → Q (.ref f) H') {σ : L2.St} : tLam P q l σ H Q := by
  obtain ⟨ps, rfl, ht, ha⟩ := F
  obtain ⟨hP, gP, mP⟩ := S.ff (P, .tbl ps) List.mem_cons_self
  refine ⟨ps, hP, ⟨ht, fun pos cv hc => (ha pos cv hc).elim fun c z => ⟨c, z.1, S.sub _ _ z.2.1, z.2.2⟩⟩, fun f o c' H1 ps' hp av nf ht' ham hcase => ?_⟩
  rcases hcase with ⟨rfl, rfl, pos, hc⟩ | ⟨nc, rfl⟩
  · obtain ⟨c, ec, hG, _⟩ := ha pos _ hc
    cases ec
    have le := LeW.put (o := o) (S.gnone nf)
    refine h f _ _ _ (foT_mono _ _ _ le ⟨ps', rfl, ht, ha⟩) (S.put nf) ⟨le, [], by simp⟩ ?_
    simp only [Rp]
    exact ⟨f, o, c', _, rfl, hp, upd_same, le.g _ _ hG, av⟩
  · have ne : c' ≠ P := fun e => by
      rw [e, hP] at nc
      cases nc
    have S1 : SA X.K X.mg [(P, .tbl ps')] (upd H P (.tbl ps')) W μ st := S.ffw fun q hq => nomatch hq
    have nc1 : upd H P (.tbl ps') c' = none := by rw [upd_ne ne]; exact nc
    have le1 := LeW.put (o := LamX.CodeO c' q) (S1.gnone nc1)
    have S2 := S1.put (o := LamX.CodeO c' q) nc1
    have le2 := LeW.put (o := o) (S2.gnone nf)
    refine h f _ _ _ ⟨ps', rfl, ht', fun p cv hcv => ?_⟩ (S2.put nf) ⟨le1.trans le2, [], by simp⟩ ?_
    · rcases ham p cv hcv with hcv | rfl
      · obtain ⟨c, ec, hG, hav⟩ := ha p cv hcv
        exact ⟨c, ec, (le1.trans le2).g _ _ hG, hav⟩
      · exact ⟨c', rfl, le2.g _ _ upd_same, fun i a hS => (av i a hS).2⟩
    · simp only [Rp]
      exact ⟨f, o, c', _, rfl, hp, upd_same, le2.g _ _ upd_same, av⟩
end
section
variable {C : Cx'} {m : MC} {X : Cx} {WE : WX} {k : Nat} {P cc : Addr}
theorem s_lamN (c : CtxOk C m X WE k) (T : TopOk m X) (q : StmOk m X (foT P (X.env.qual ++ "<lambda>"))) (TB : LamX.TabB X.base X.mg cc P) (hcode : X.env.code = .ref cc) {i l : Nat} {e : Ev.E} {x : Str} {par : Arguments} {b y : Expr} {sc : Scope} {k1 : Nat} {p1 p2 p3 p4 pos : Pos}
    (ht : tgtB m i x = true) (h1 : noParB par = true) (h2 : lamB m.sc sc = true) (h3 : mtL m l b sc = true) (hy : nst y = true) (he : PE X y (RdE C X WE e)) :
    PS X (.Assign [.Name x p1] (.List [.Tuple [.Lambda par b sc p2, y] k1 p3] p4) pos) (RdS C X WE (foT P (X.env.qual ++ "<lambda>")) (.lamN i l e)) := by
  obtain ⟨g1, g2, g3⟩ := c.tgt ht
  refine (ps_set (c.hN ▸ c.nd) g1 g2 (pe_lst (pa_cons (pe_tup (pa_cons (pe_lam c T TB hcode h1 h2 h3) (pa_cons he pa_nil (nst_each hy _ _)) rfl)) pa_nil rfl)) rfl g3).imp ?_
  rintro D σ H ⟨FF, env, st, W, μ, F, S, E, p⟩
  unfold tAsg tLst tCons tTup
  dsimp only
  refine lam_sa (l := l) F S fun f FF1 H1 W1 F1 S1 x1 rf => ⟨FF1, env, st, W1, μ, S1, E.mono x1, (ptF_bnd (rel := relA X.K X.mg) q.fm F1 (PtF.mono x1 p)).imp ?_⟩
  rintro vy H2 ⟨d, st2, W2, μ2, F2, S2, x2, r2, p2⟩
  obtain ⟨d', st3, W3, F3, S3, x3, r3, p3⟩ := ptF_frz q.fm F2 S2 r2 p2
  refine ⟨by show 2 ≤ sizeLine; exact Nat.le_trans (by decide) line1m, fun q1 hq1 => ⟨by show 1 ≤ sizeLine; exact Nat.le_trans (by decide) line1m, fun q2 hq2 => ?_⟩⟩
  have le4 := LeW.put (o := .tup [.ref f, vy]) (S3.gnone hq1)
  have S4 := S3.put (o := .tup [.ref f, vy]) hq1
  have rt : Rp X.K X.mg (W3.put q1 (.tup [.ref f, vy])) (.tup [.clo l, d']) (.ref q1) := by
    simp only [Rp]
    exact ⟨q1, _, rfl, SqT.of upd_same, Rps.cons (((rf.mono x2.w).mono x3.w).mono le4) (Rps.cons (r3.mono le4) Rps.nil)⟩
  have S5 := S4.new (o := .lst [.ref q1]) (mo := .lst [.tup [.clo l, d']]) hq2 ⟨q2, [.ref q1], rfl, upd_same, S4.gnone hq2, Rps.cons rt Rps.nil⟩
  have x5 : Ex2 W3 μ2 (W3.put q1 (.tup [.ref f, vy])) (μ2 ++ [q2]) := ⟨le4, [q2], rfl⟩
  have p4 : PtF X.K X.mg WE (foT P (X.env.qual ++ "<lambda>")) W3 μ2 (.ok (.nx (setE env i (.mu st3.length))) (st3 ++ [.lst [.tup [.clo l, d']]])) D := p3
  exact p4 _ _ _ _ _ (q.fm _ _ _ le4 F3) S5 x5 (((((E.mono x1).mono x2).mono x3).mono x5).set ⟨q2, (by rw [← S3.len]; simp), rfl⟩)
theorem s_lamA (c : CtxOk C m X WE k) (T : TopOk m X) (q : StmOk m X (foT P (X.env.qual ++ "<lambda>"))) (TB : LamX.TabB X.base X.mg cc P) (hcode : X.env.code = .ref cc) {i l : Nat} {e : Ev.E} {x : Str} {par : Arguments} {b y : Expr} {sc : Scope} {k1 : Nat} {p1 p2 p3 ap cp pos : Pos}
    (ht : varB m i x = true) (h1 : noParB par = true) (h2 : lamB m.sc sc = true) (h3 : mtL m l b sc = true) (hy : nst y = true) (he : PE X y (RdE C X WE e)) (hl : (ap.endLine == cp.line) = true) :
    PS X (.Expr (.Call (.Attribute (.Name x p1) "append" ap) [.Tuple [.Lambda par b sc p2, y] k1 p3] [] cp) pos) (RdS C X WE (foT P (X.env.qual ++ "<lambda>")) (.lamA i l e)) := by
  obtain ⟨v1, v2, v3, v4⟩ := c.var ht
  have pt := pe_tup (x1 := k1) (pos := p3) (pa_cons (pe_lam (l := l) (pos := p2) c T TB hcode h1 h2 h3) (pa_cons he pa_nil (nst_each hy _ _)) rfl)
  have pm := pe_bm (apos := ap) (cpos := cp) PySem.F.plainAttrs_list PySem.F.slot_list_append (by first | rfl | (with_unfolding_all rfl) | (decide +kernel)) (mt_append' (X := X) (WE := WE)) (pe_var (pos := p1) v1 v2 v3 v4) (pa_cons pt pa_nil rfl) rfl rfl hl rfl rfl
  refine (ps_expr pm rfl).imp ?_
  rintro D σ H ⟨FF, env, st, W, μ, F, S, E, p⟩
  have p0 : PtF X.K X.mg WE (foT P (X.env.qual ++ "<lambda>")) W μ ((match env[i]? with
    | some (some o) => fun s => if metB .append (thD o s) then bnd (evE C e env) (fun d => bnd (frzD d) fun d => bnd (metD o .append [.tup [.clo l, d]]) fun _ => ret (Fl.nx env)) s else .no
    | _ => no) st) D := p
  cases ei : env[i]? with
  | none => rw [ei] at p0; exact False.elim p0
  | some oo =>
    cases oo with
    | none => rw [ei] at p0; exact False.elim p0
    | some o =>
      rw [ei] at p0
      dsimp only at p0
      obtain ⟨v, hv, rv⟩ := E.at_ i o ei
      refine ⟨v, hv, ?_⟩
      split at p0
      case isFalse => exact False.elim p0
      rename_i cb
      have el : ∃ ds, thD o st = .lst ds := by
        cases e : thD o st <;> rw [e] at cb <;> first | exact ⟨_, rfl⟩ | cases cb
      obtain ⟨ds, el⟩ := el
      obtain ⟨t, vs, rfl, q1, q2⟩ := lst_of S rv el
      refine ⟨.inl ⟨rfl, vs, SqL.of q1⟩, ?_⟩
      unfold tCons tTup
      dsimp only
      refine lam_sa (l := l) F S fun f FF1 H1 W1 F1 S1 x1 rf => ⟨FF1, env, st, W1, μ, S1, E.mono x1, (ptF_bnd (rel := relA X.K X.mg) q.fm F1 (PtF.mono x1 p0)).imp ?_⟩
      rintro vy H2 ⟨d, st2, W2, μ2, F2, S2, x2, r2, p2⟩
      obtain ⟨d', st3, W3, F3, S3, x3, r3, p3⟩ := ptF_frz q.fm F2 S2 r2 p2
      refine ⟨by show 2 ≤ sizeLine; exact Nat.le_trans (by decide) line1m, fun q1' hq1 => ?_⟩
      have le4 := LeW.put (o := .tup [.ref f, vy]) (S3.gnone hq1)
      have S4 := S3.put (o := .tup [.ref f, vy]) hq1
      have x4 : Ex2 W3 μ2 (W3.put q1' (.tup [.ref f, vy])) μ2 := ⟨le4, [], by simp⟩
      have rt : Rp X.K X.mg (W3.put q1' (.tup [.ref f, vy])) (.tup [.clo l, d']) (.ref q1') := by
        simp only [Rp]
        exact ⟨q1', _, rfl, SqT.of upd_same, Rps.cons (((rf.mono x2.w).mono x3.w).mono le4) (Rps.cons (r3.mono le4) Rps.nil)⟩
      refine ⟨_, σ, _, _, μ2, o, [.tup [.clo l, d']], S4, (((rv.mono x1).mono x2).mono x3).mono x4, ⟨_, _, rfl, rt.a, rfl⟩, (ptF_bnd (rel := relA X.K X.mg) q.fm (q.fm _ _ _ le4 F3) (PtF.mono x4 p3)).imp ?_⟩
      rintro u H5 ⟨_, st5, W5, μ5, F5, S5, x5, _, p5⟩
      exact ptF_nx F5 S5 (((((E.mono x1).mono x2).mono x3).mono x4).mono x5) p5
end
end Ev
end
section
set_option Elab.async false
set_option linter.all false
set_option maxRecDepth 100000
set_option maxHeartbeats 4000003
namespace Ev
open PySem PySem.Spec PyProof.Rows L2
variable [Gh]
section
variable {C : Cx'} {k : Nat} {fo : FO}
/-- where closures are made, the table is at hand -/
structure TabOk (m : MC) (X : Cx) (fo : FO) : Prop where
  t : m.top = true → ∃ cc P, LamX.TabB X.base X.mg cc P ∧ X.env.code = .ref cc ∧ fo = foT P (X.env.qual ++ "<lambda>")
mutual
theorem sndS {m : MC} {X : Cx} {WE : WX} (c : CtxOk C m X WE k) (q : StmOk m X fo) (z : TabOk m X fo) (t : S) (a : Stmt) (h : mtS m t a = true) : PS X a (RdS C X WE fo t) := by
  match t with
  | .asg tg e =>
    cases a with
    | Assign gs x pos =>
      match gs, h with
      | [g], h => exact ps_asgE c q h
      | [], h => simp [mtS] at h
      | _ :: _ :: _, h => simp [mtS] at h
    | _ => simp [mtS] at h
  | .par is es =>
    cases a with
    | Assign gs x pos =>
      match gs, h with
      | [g], h => exact ps_parE c q h
      | [], h => simp [mtS] at h
      | _ :: _ :: _, h => simp [mtS] at h
    | _ => simp [mtS] at h
  | .lamN i l e =>
    unfold mtS at h
    split at h
    · simp only [Bool.and_eq_true] at h
      obtain ⟨⟨⟨⟨⟨⟨h1, h2⟩, h3⟩, h4⟩, h5⟩, h6⟩, h7⟩ := h
      obtain ⟨cc, P, TB, hc, rfl⟩ := z.t h1
      exact s_lamN c (c.top h1) q TB hc h2 h3 h4 h5 h7 (sndE c e _ h6)
    · cases h
  | .lamA i l e =>
    unfold mtS at h
    split at h
    · simp only [Bool.and_eq_true, decide_eq_true_eq] at h
      obtain ⟨⟨⟨⟨⟨⟨⟨⟨h1, h2⟩, rfl⟩, h3⟩, h4⟩, h5⟩, h6⟩, h7⟩, h8⟩ := h
      obtain ⟨cc, P, TB, hc, rfl⟩ := z.t h1
      exact s_lamA c (c.top h1) q TB hc h2 h3 h4 h5 h7 (sndE c e _ h6) h8
    · cases h
  | .aug _ _ _ => simp [mtS] at h
  | .exp e =>
    cases a with
    | Expr x pos =>
      simp only [mtS, Bool.and_eq_true] at h
      exact s_exp c q h.2 (sndE c e x h.1)
    | _ => simp [mtS] at h
  | .rtn e =>
    cases a with
    | Return o pos =>
      cases o with
      | none => simp [mtS] at h
      | some x => exact s_rtn c q (sndE c e x (by simpa only [mtS] using h))
    | _ => simp [mtS] at h
  | .rtnN =>
    cases a with
    | Return o pos =>
      cases o with
      | none => exact s_rtnN c q
      | some x => simp [mtS] at h
    | _ => simp [mtS] at h
  | .ite tt x y =>
    cases a with
    | If g p p' pos =>
      simp only [mtS, Bool.and_eq_true] at h
      exact s_ite c q (sndT c tt g h.1.1) (sndSs c q z x p h.1.2) (sndSs c q z y p' h.2)
    | _ => simp [mtS] at h
  | .for_ tg it b =>
    cases a with
    | For g i p oe pos =>
      cases oe with
      | cons _ _ => simp [mtS] at h
      | nil =>
        simp only [mtS, Bool.and_eq_true] at h
        exact s_for c q h.1.2 (sndTg c _ tg g h.1.1.1) (sndIt c it i g h.1.1.2) (sndSs c q z b p h.2)
    | _ => simp [mtS] at h
  | .whl tt b =>
    cases a with
    | While g p oe pos =>
      cases oe with
      | cons _ _ => simp [mtS] at h
      | nil =>
        simp only [mtS, Bool.and_eq_true] at h
        exact s_whl c q (sndT c tt g h.1) (sndSs c q z b p h.2)
    | _ => simp [mtS] at h
  | .rse cn es =>
    cases a with
    | Raise o o2 pos =>
      match o, o2, h with
      | some (.Call (.Name x p) xs [] cp), none, h =>
        simp only [mtS, Bool.and_eq_true, Bool.not_eq_true'] at h
        obtain ⟨⟨⟨h1, h2⟩, h3⟩, h4⟩ := h
        obtain ⟨e, _⟩ := c.gl h1
        subst e
        exact s_rse c q h2 h1 h3 (by intro e; subst e; cases h4) (sndEs c es xs h3)
      | none, _, h => simp [mtS] at h
      | some _, some _, h => simp [mtS] at h
      | some (.Call (.Name x p) xs (_ :: _) cp), none, h => simp [mtS] at h
      | some e, none, h =>
        simp only [mtS] at h
        split at h
        · rename_i e1
          cases e1
          simp only [Bool.and_eq_true, Bool.not_eq_true'] at h
          obtain ⟨⟨⟨h1, h2⟩, h3⟩, h4⟩ := h
          obtain ⟨e, _⟩ := c.gl h1
          subst e
          exact s_rse c q h2 h1 h3 (by intro e; subst e; cases h4) (sndEs c es _ h3)
        · cases h
    | _ => simp [mtS] at h
  | .try_ i b hs =>
    cases a with
    | Try p hds oe fin pos =>
      match oe, fin, h with
      | [], [], h =>
        refine s_try c q h fun W pl xe c' q' => sndSs c' q' ⟨z.t⟩ b p ?_
        simp only [mtS] at h
        split at h
        · simp only [Bool.and_eq_true] at h
          exact h.1.1.2
        · cases h
      | _ :: _, _, h => simp [mtS] at h
      | [], _ :: _, h => simp [mtS] at h
    | _ => simp [mtS] at h
  | .pass =>
    cases a with
    | Pass pos => exact s_pass c q
    | _ => simp [mtS] at h
  | .brk =>
    cases a with
    | Break pos => exact s_brk c q
    | _ => simp [mtS] at h
  | .cont =>
    cases a with
    | Continue pos => exact s_cont c q
    | _ => simp [mtS] at h
theorem sndSs {m : MC} {X : Cx} {WE : WX} (c : CtxOk C m X WE k) (q : StmOk m X fo) (z : TabOk m X fo) (t : Ss) (a : List Stmt) (h : mtSs m t a = true) : PSs X a (RdSs C X WE fo t) := by
  match t with
  | .nil =>
    cases a with
    | nil =>
      refine pss_nil.imp ?_
      rintro D σ H ⟨FF, env, st, W, μ, F, S, E, p⟩
      exact ptF_nx F S E p
    | cons _ _ => simp [mtSs] at h
  | .cons s r =>
    cases a with
    | nil => simp [mtSs] at h
    | cons x xs =>
      simp only [mtSs, Bool.and_eq_true] at h
      refine (pss_cons (sndS c q z s x h.1) (sndSs c q z r xs h.2)).imp ?_
      rintro D σ H ⟨FF, env, st, W, μ, F, S, E, p⟩
      refine ⟨FF, env, st, W, μ, F, S, E, ?_⟩
      have p' : PtF X.K X.mg WE fo W μ (bnd (evS C s env) (fun f => match f with
        | .nx e' => evSs C r e'
        | f => ret f) st) D := p
      exact PtF.seq p'
end
end
end Ev
end
section
set_option Elab.async false
set_option linter.all false
set_option maxRecDepth 100000
set_option maxHeartbeats 4000003
namespace Ev
open PySem PySem.Spec PyProof.Rows L2
theorem zip_some : ∀ {ps : List Str} {us : List Value} {n : Str}, us.length = ps.length → n ∈ ps → ((ps.zip us).lookup n).isNone = false
  | [], _, _, _, h => nomatch h
  | p :: ps, [], _, l, _ => by simp at l
  | p :: ps, u :: us, n, l, h => by
    rw [List.zip_cons_cons, List.lookup_cons]
    by_cases e : n = p
    · subst e
      simp
    · have : (n == p) = false := by simpa using e
      rw [this]
      exact zip_some (by simpa using l) ((List.mem_cons.mp h).resolve_left e)
theorem fm_zip : ∀ {ps : List Str} {us : List Value}, us.length = ps.length → ps.Nodup → (ps.filterMap fun n => ((ps.zip us).lookup n).map (n, ·)) = ps.zip us
  | [], us, _, _ => rfl
  | p :: ps, [], l, _ => by simp at l
  | p :: ps, u :: us, l, nd => by
    obtain ⟨n1, n2⟩ := List.nodup_cons.mp nd
    rw [List.zip_cons_cons, List.filterMap_cons]
    simp only [List.lookup_cons, beq_self_eq_true, Option.map_some]
    congr 1
    rw [← fm_zip (us := us) (by simpa using l) n2]
    have key : ∀ qs : List Str, (∀ q ∈ qs, q ≠ p) → (qs.filterMap fun n => (match n == p with
      | true => some u
      | false => (ps.zip us).lookup n).map (n, ·)) = qs.filterMap fun n => ((ps.zip us).lookup n).map (n, ·) := fun qs => by
      induction qs with
      | nil => intro _; rfl
      | cons q qs ih =>
        intro h
        rw [List.filterMap_cons, List.filterMap_cons, ih fun r hr => h r (List.mem_cons_of_mem _ hr)]
        have e : (q == p) = false := by simpa using h q List.mem_cons_self
        rw [e]
    rw [fm_zip (us := us) (by simpa using l) n2]
    exact (key ps fun q hq e => n1 (e ▸ hq)).trans (fm_zip (us := us) (by simpa using l) n2)
theorem bind_plain {name qual : Str} {as : List Arg} {body : List Stmt} {scope : Scope} {kV doc pm : Value} {an : Option Addr} {cdv ct : Value} {us : List Value} (hl : us.length = as.length) (nd : (as.map (·.arg)).Nodup) :
    bindArgs (PySem.W.fnOf name qual ⟨[], as, none, [], [], none, []⟩ body scope .none kV doc pm an cdv ct) ⟨us, []⟩ = pure ((as.map (·.arg)).zip us) := by
  unfold bindArgs PySem.W.fnOf
  have h1 : ¬ (us.length > as.length) := by omega
  have h2 : (List.filter (fun n => (((as.map (·.arg)).zip us).lookup n).isNone) (List.take as.length (as.map (·.arg)))) = [] := by
    rw [List.take_of_length_le (by simp), List.filter_eq_nil_iff]
    intro a ha
    rw [zip_some (by simpa using hl) ha]
    simp
  have h3 : seqItems? (.none : Value) = pure none := rfl
  have h4 : List.filterMap ((fun n => (((as.map (·.arg)).zip us).lookup n).map fun x => (n, x)) ∘ fun x => x.arg) as = (as.map (·.arg)).zip us := by
    rw [← List.filterMap_map]
    exact fm_zip (by simpa using hl) nd
  simp [h1, h2, h3, h4]
theorem bind_one {name qual : Str} {as : List Arg} {dx : List Expr} {body : List Stmt} {scope : Scope} {kV doc pm d : Value} {T : Addr} {an : Option Addr} {cdv ct : Value} {us : List Value} (hl : us.length + 1 = as.length) (nd : (as.map (·.arg)).Nodup) :
    ∃ k, bindArgs (PySem.W.fnOf name qual ⟨[], as, none, [], [], none, dx⟩ body scope (.ref T) kV doc pm an cdv ct) ⟨us, []⟩ = seqItems? (.ref T) >>= k ∧ k (some #[d]) = pure ((as.map (·.arg)).zip (us ++ [d])) := by
  obtain ⟨qs, q, hq⟩ : ∃ qs q, as.map (·.arg) = qs ++ [q] := by
    have hne : as.map (·.arg) ≠ [] := by
      intro z
      have := congrArg List.length z
      simp at this
      subst this
      simp at hl
    exact ⟨_, _, (List.dropLast_concat_getLast hne).symm⟩
  have hlq : us.length = qs.length := by
    have := congrArg List.length hq
    simp at this
    omega
  have hz : (qs ++ [q]).zip us = qs.zip us := by
    have := List.zip_append (l₁ := qs) (r₁ := [q]) (l₂ := us) (r₂ := []) hlq.symm
    simpa using this
  have hz2 : (qs ++ [q]).zip (us ++ [d]) = qs.zip us ++ [(q, d)] := by
    have := List.zip_append (l₁ := qs) (r₁ := [q]) (l₂ := us) (r₂ := [d]) hlq.symm
    simpa using this
  have hnq : q ∉ qs := by
    rw [hq] at nd
    intro z
    have := (List.nodup_append.mp nd).2.2 q z q (by simp)
    exact this rfl
  have hql : ((qs.zip us).lookup q) = none := by
    rw [List.lookup_eq_none_iff]
    intro p hp
    have : p.1 ∈ qs := (List.of_mem_zip (a := p.1) (b := p.2) hp).1
    have : q ≠ p.1 := fun z => hnq (z ▸ this)
    simpa using this
  have hfm := fm_zip (ps := qs ++ [q]) (us := us ++ [d]) (by simp [hlq]) (hq ▸ nd)
  rw [hz2] at hfm
  unfold bindArgs PySem.W.fnOf
  refine ⟨_, rfl, ?_⟩
  have hal : as.length = qs.length + 1 := by omega
  have e1 : ¬ (us.length > as.length) := by omega
  have e2 : List.drop qs.length (as.map (·.arg)) = [q] := by rw [hq]; simp
  have e3 : List.take qs.length (as.map (·.arg)) = qs := by rw [hq]; simp
  have e4 : (List.filter (fun n => ((qs.zip us).lookup n).isNone) qs) = [] := by
    rw [List.filter_eq_nil_iff]
    intro a ha
    rw [zip_some hlq ha]
    simp
  simp [e1, e2, e3, e4, hq, hz, hal, hql, hfm]
  rw [if_neg (by omega)]
  rw [List.filterMap_append] at hfm
  rw [hfm, hz2]

/-- a def's text beside its term -/
structure Dn where
  name : Str
  N : List Str
  F : Fn
  params : Arguments
  body : List Stmt
  scope : Scope
  fname : Str := name
def plainPar : Arguments → Bool
  | ⟨[], _, none, [], [], none, []⟩ => true
  | _ => false
def Dn.ps (d : Dn) : List Str := d.params.args.map (·.arg)
def Dn.mc (m0 : MC) (d : Dn) : MC := { m0 with N := d.N, sc := d.scope, ts := d.scope }
/-- the text is the term's -/
def Dn.okB (m0 : MC) (d : Dn) : Bool := C8.scC d.N d.ps d.scope && plainPar d.params && decide d.ps.Nodup && decide (d.F.np = d.ps.length) && decide (d.F.nl = d.N.length) && d.F.dfl.isEmpty && mtSs (d.mc m0) d.F.body d.body
/-- a class's text beside its term: what its __init__ stores -/
structure Clx where
  name : Str
  C : Cl
  N : List Str
  params : Arguments
  body : List Stmt
  scope : Scope
def plainPar1 : Arguments → Bool
  | ⟨[], _, none, [], [], none, ds⟩ => decide (ds.length ≤ 1)
  | _ => false
def Clx.ps (d : Clx) : List Str := d.params.args.map (·.arg)
def Clx.mc (m0 : MC) (d : Clx) : MC := { m0 with N := d.N, sc := d.scope, ts := d.scope }
/-- self.f = e, one behind another -/
def stC (m : MC) : List Str → Es → List Stmt → Bool
  | [], .nil, [] => true
  | f :: fs, .cons e r, s :: b => (match s with
    | .Assign [.Attribute (.Name x _) g _] v _ => varB m 0 x && decide (f = g) && mtE m e v && nlc v && stC m fs r b
    | _ => false)
  | _, _, _ => false
def Clx.okB (m0 : MC) (d : Clx) : Bool := C8.scC d.N d.ps d.scope && plainPar1 d.params && decide d.ps.Nodup && decide (d.C.np + 1 = d.ps.length) && decide (d.C.dfl.length = d.params.defaults.length) && stC (d.mc m0) d.C.fs d.C.es d.body && decide d.C.fs.Nodup && decide (d.C.fs.length ≤ 900) && decide (d.ps.length ≤ d.N.length)
variable [Gh]
/-- the module, as all its defs see it -/
structure Wld (K : PySem.W.Frag) (mg : Str → Option Value) (P : Program) (w : World) (base : Heap) (G : Gl) (m0 : MC) : Prop where
  con : ∀ x d, G.con x = some d → ∃ v u, mg x = some u ∧ RelV v u ∧ ∀ W μ, Rpa K mg W μ d v
  isa : IsaOk K mg G.isa
  cns : ∀ c ∈ m0.cns, ∃ T, mg c = some (.ref T)
  bn : ∀ b ∈ bNs, mg b = none
  gcd : m0.gcd = true → mg "gcd" = some (.builtin "math.gcd")
  fns : ∀ f ∈ m0.fns, ∃ a, mg f = some (.ref a) ∧ PySem.W.keepIn K (.ref a) = true
  exc : ∀ c ∈ m0.exn, ∃ fs, G.exs c = some fs ∧ ExcC K mg P w base c fs
  exm : ∀ c c', (G.exs c).isSome = true → c' ∈ m0.exn → ∀ A B, mg c = some (.ref A) → mg c' = some (.ref B) → PySem.W.exmOne K (.ref A) (.ref B) = some (decide (c = c'))
  clf : CloF
  top : m0.top = false
  cl : ∀ c C, G.cls c = some C → ∃ d : Clx, d.C = C ∧ d.okB m0 = true ∧ ∀ a, mg c = some (.ref a) → ∃ f fd qual dvs, L2.Mk K a f ∧ ClsOk K a C.fs ∧ FunD K "__init__" qual d.params d.body d.scope dvs [] f fd ∧ dvs.length = C.dfl.length ∧ ∀ W, Rps K mg W C.dfl dvs
  fn : ∀ f F, G.fn f = some F → ∃ d : Dn, d.F = F ∧ d.okB m0 = true ∧ ∀ a, mg f = some (.ref a) → ∃ fd, FunD K d.fname d.fname d.params d.body d.scope [] [] a fd
section
variable {K : PySem.W.Frag} {mg : Str → Option Value} {P : Program} {w : World} {base : Heap} {G : Gl} {m0 : MC}
theorem RoomG.deeper {k : Nat} {A : Around} (r : RoomG (k + 1) A) (env : Env) : RoomG k (A.deeper env) := ⟨r.r.deeper env, by
  have := r.g
  simpa [Around.deeper, Around.under] using this⟩
/-- the context of a def's body -/
theorem Wld.ctx (Z : Wld K mg P w base G m0) {k : Nat} {kk : Nat} (hk : 2 ≤ k) (F1 : ∀ f a, mg f = some (.ref a) → FnC K mg P w base k a ((orcAt G kk).fn f)) (F2 : ∀ l, CloC K mg P w base k l ((orcAt G kk).clo l)) {N ps : List Str} {scope : Scope} (S : FnScope N ps scope)
    {qual : Str} {f : Addr} {cdv : Value} {A : Around} {outer : List Env} {s : Shared} {H : Hp} {E : XK} (hr : RoomG k (A.deeper (envOfC qual scope s.heap.objs.size f cdv))) :
    CtxOk ⟨G.con, G.isa, G.exs, orcAt G kk, G.wf, none⟩ { m0 with N := N, sc := scope, ts := scope } (cxOf (L2.CX P w) P w K mg base N qual scope f cdv A outer s H E) (fun cls dd _ H' => E cls dd H') k where
  hN := rfl
  nd := S.nd
  hsc := rfl
  calm := rfl
  room := hr
  tk := takes_of (X := cxOf (L2.CX P w) P w K mg base N qual scope f cdv A outer s H E) rfl rfl rfl rfl
  tl := fun x hx => by
    refine ⟨?_, .inl rfl⟩
    have hx' : locB scope x = true := hx
    unfold locB at hx'
    split at hx'
    · rename_i e
      exact .inl e
    · rename_i e
      exact .inr e
    · cases hx'
  con := Z.con
  isa := Z.isa
  cns := Z.cns
  bn := Z.bn
  gcd := Z.gcd
  fns := Z.fns
  fnc := F1
  clo := F2
  clf := Z.clf
  top := fun h => by
    have h' : m0.top = true := h
    rw [Z.top] at h'
    cases h'
  k2 := hk
  exc := Z.exc
  exm := Z.exm
theorem stm_cx {N ps : List Str} {scope : Scope} (S : FnScope N ps scope) {qual : Str} {f : Addr} {cdv : Value} {A : Around} {outer : List Env} {s : Shared} {H : Hp} {E : XK} {fo : FO} (fm : ∀ FF W W', LeW W W' → fo FF W → fo FF W') :
    StmOk { m0 with N := N, sc := scope, ts := scope } (cxOf (L2.CX P w) P w K mg base N qual scope f cdv A outer s H E) fo where
  kind := S.kind
  own := passes_of (X := cxOf (L2.CX P w) P w K mg base N qual scope f cdv A outer s H E) rfl
  ts := rfl
  fm := fm
  stk := rfl
  fr := rfl
theorem start_re {W : Vw} {μ : List Addr} {ds : List D} {vs : List V} {N : List Str} {nl : Nat} (hn : nl = N.length) (r : Rpas K mg W μ ds vs) : RE K mg W μ (L2.start N vs) (ds.map some ++ List.replicate (nl - ds.length) none) := by
  have el := r.length
  have at_ : ∀ {ds : List D} {vs : List V} {i : Nat} {d : D}, Rpas K mg W μ ds vs → ds[i]? = some d → ∃ v, vs[i]? = some v ∧ Rpa K mg W μ d v := by
    intro ds
    induction ds with
    | nil => intro vs i d _ h; simp at h
    | cons x xs ih =>
      intro vs i d h e
      obtain ⟨v, r, rfl, h1, h2⟩ := h
      cases i with
      | zero =>
        simp at e
        subst e
        exact ⟨v, rfl, h1⟩
      | succ i =>
        obtain ⟨u, h3, h4⟩ := ih h2 (by simpa using e)
        exact ⟨u, by simpa using h3, h4⟩
  refine ⟨?_, fun i d e => ?_⟩
  · unfold L2.start
    simp only [List.length_append, List.length_map, List.length_replicate, el, hn]
    exact Nat.le_refl _
  · by_cases hi : i < ds.length
    · rw [List.getElem?_append_left (by simpa using hi), List.getElem?_map] at e
      obtain ⟨d', hd, e⟩ := Option.map_eq_some_iff.mp e
      cases e
      obtain ⟨v, hv, rv⟩ := at_ r hd
      refine ⟨v, ?_, rv⟩
      unfold L2.start
      rw [List.getElem?_append_left (by rw [List.length_map, ← el]; exact hi), List.getElem?_map, hv]
      rfl
    · rw [List.getElem?_append_right (by simpa using Nat.le_of_not_lt hi)] at e
      rw [List.getElem?_replicate] at e
      split at e <;> cases e
/-- what is left of the store behind a call -/
theorem leave_sa {FF : List (Addr × HO)} {H' : Hp} {W W' : Vw} {μ μ' : List Addr} {st' : Sto} {n : Nat} (hn : μ.length = n) (S : SA K mg FF H' W' μ' st') (x : Ex2 W μ W' μ') : SA K mg FF H' W' (μ'.take n) (st'.take n) ∧ Ex2 W μ W' (μ'.take n) := by
  obtain ⟨xw, r, xr⟩ := x
  have e : μ'.take n = μ := by
    rw [xr, ← hn]
    simp
  exact ⟨S.cut n, xw, [], by rw [e]; simp⟩
theorem Rpa.take {W' : Vw} {μ' : List Addr} {d : D} {v : V} {n : Nat} (r : Rpa K mg W' μ' d v) (h : ∀ k, d = .mu k → k < n) : Rpa K mg W' (μ'.take n) d v := by
  cases d with
  | mu k =>
    obtain ⟨a, h1, h2⟩ := r
    exact ⟨a, by rw [List.getElem?_take_of_lt (h k rfl)]; exact h1, h2⟩
  | _ => exact r
theorem runB_ptf {X : Cx'} {F : Fn} {ys : List D} {FF : List (Addr × HO)} {H : Hp} {W : Vw} {μ : List Addr} {st : Sto} {Q : VK} {E : XK} (S : SA K mg FF H W μ st) (p : PtX K mg (relA K mg) FF W μ (runB X F ys st) Q E) :
    PtF K mg (fun cls dd _ H' => E cls dd H') (fun FF' _ => FF' = FF) W μ (evSs X F.body (ys.map some ++ List.replicate (F.nl - ys.length) none) st) { nx := fun _ H' => Q .non H', rt := Q } := by
  unfold runB at p
  cases e : evSs X F.body (ys.map some ++ List.replicate (F.nl - ys.length) none) st with
  | no =>
    rw [e] at p
    exact p
  | exc x st' =>
    rw [e] at p
    intro FF' σ' H' W' μ' cls dd hf S' x' r
    subst hf
    obtain ⟨S2, x2⟩ := leave_sa S.len S' x'
    exact p H' W' _ cls dd S2 x2 r
  | ok f st' =>
    rw [e] at p
    intro FF' σ' H' W' μ' hf S' x'
    subst hf
    cases f with
    | bk e' => exact False.elim p
    | ct e' => exact False.elim p
    | nx e' =>
      intro _
      obtain ⟨S2, x2⟩ := leave_sa S.len S' x'
      exact p .non H' W' _ S2 x2 rfl
    | rt d =>
      intro v rv
      have p' : PtX K mg (relA K mg) FF' W μ (leave st.length d st') Q E := p
      have gen : (∀ k, d = .mu k → k < st.length) → leave st.length d st' = .ok d (st'.take st.length) → Q v H' := fun h1 h2 => by
        rw [h2] at p'
        obtain ⟨S2, x2⟩ := leave_sa S.len S' x'
        exact p' v H' W' _ S2 x2 (rv.take h1)
      cases d with
      | mu k =>
        by_cases hk : k < st.length
        · exact gen (fun j ej => by cases ej; exact hk) (by simp [leave, hk])
        · have h2 : leave st.length (.mu k) st' = .ok (.mu k) st' := by simp [leave, hk]
          rw [h2] at p'
          exact p' v H' W' μ' S' x' rv
      | clo l => exact False.elim p'
      | _ => exact gen (fun j ej => by cases ej) rfl
theorem def_ok (Z : Wld K mg P w base G m0) {k rr : Nat} (h2r : 2 ≤ rr) (F1 : ∀ f a, mg f = some (.ref a) → FnC K mg P w base rr a ((orcAt G k).fn f)) (F2 : ∀ l, CloC K mg P w base rr l ((orcAt G k).clo l)) {f : Str} {F : Fn} (hf : G.fn f = some F) {a : Addr} (ha : mg f = some (.ref a)) :
    FnC K mg P w base (rr + 1) a ((orcAt G (k + 1)).fn f) := by
  obtain ⟨d, rfl, okd, hd⟩ := Z.fn f F hf
  obtain ⟨fd, FD⟩ := hd a ha
  unfold Dn.okB at okd
  simp only [Bool.and_eq_true, decide_eq_true_eq] at okd
  obtain ⟨⟨⟨⟨⟨⟨o1, o2⟩, o3⟩, o4⟩, o5⟩, o6⟩, o7⟩ := okd
  have SC := C8.fnScope_by o1
  have hdf : d.F.dfl = [] := by simpa using o6
  obtain ⟨oc, od, dV, kV, doc, pm, an, cdv, ct, osl, rfl, lk, hcd, hD, hK⟩ := FD.ex
  have hdV : dV = .none := by
    rcases hD with ⟨_, h⟩ | ⟨h, _⟩
    · exact h
    · exact absurd rfl h
  subst hdV
  rintro A outer s H us vs Q E hr e0 r ⟨FF, st, W, μ, ds, S, rp, p⟩
  have eo : (orcAt G (k + 1)).fn f ds = (match fillA d.F.np d.F.dfl ds with
      | some ys => runB ⟨G.con, G.isa, G.exs, orcAt G k, G.wf, none⟩ d.F ys
      | none => no) := by
    simp only [orcAt, hf]
    try rfl
  rw [eo] at p
  have hl : ds.length = d.F.np ∧ fillA d.F.np d.F.dfl ds = some ds := by
    by_cases h : ds.length ≤ d.F.np ∧ d.F.np ≤ ds.length + d.F.dfl.length
    · have e1 : fillA d.F.np d.F.dfl ds = some (ds ++ d.F.dfl.drop (ds.length + d.F.dfl.length - d.F.np)) := if_pos h
      rw [e1]
      rw [hdf] at h ⊢
      exact ⟨by have := h.1; have := h.2; simp at this; omega, by simp⟩
    · have e1 : fillA d.F.np d.F.dfl ds = none := if_neg h
      rw [e1] at p
      exact False.elim p
  rw [hl.2] at p
  have hv : vs.length = d.ps.length := by rw [← rp.length, hl.1, o4]
  have hu : us.length = d.ps.length := by rw [← r.length, hv]
  have hpar : d.params = ⟨[], d.params.args, none, [], [], none, []⟩ := by
    cases hp : d.params with
    | mk a b c d' e f g =>
      rw [hp] at o2
      cases a <;> cases c <;> cases d' <;> cases e <;> cases f <;> cases g <;> first | rfl | cases o2
  have hb : BindsTo s (PySem.W.fnOf d.fname d.fname d.params d.body d.scope .none kV doc pm an cdv ct) ⟨us, []⟩ (d.ps.zip us) := by
    refine .of_eq ?_
    have := bind_plain (name := d.fname) (qual := d.fname) (body := d.body) (scope := d.scope) (kV := kV) (doc := doc) (pm := pm) (an := an) (cdv := cdv) (ct := ct) (as := d.params.args) (us := us) (by rw [hu]; simp [Dn.ps]) o3
    rw [← hpar] at this
    exact this
  refine LamX.run_ofS (N := d.N) (ps := d.ps) (us := us) (vs := vs) lk hcd SC hr.r e0 hb r hv fun hr' => ?_
  have hg : RoomG rr (A.deeper (envOfC d.fname d.scope s.heap.objs.size a cdv)) := hr.deeper _
  refine ⟨_, sndSs (fo := fun FF' _ => FF' = FF) (Z.ctx (by omega) F1 F2 SC hg) (stm_cx SC fun FF' W W' _ h => h) ⟨fun h => by
    have h' : m0.top = true := h
    rw [Z.top] at h'
    cases h'⟩ d.F.body d.body o7, FF, _, st, W, μ, rfl, S, start_re o5 rp, runB_ptf S p⟩
end
end Ev
end
section
set_option Elab.async false
set_option linter.all false
set_option maxRecDepth 100000
set_option maxHeartbeats 4000003
namespace Ev
open PySem PySem.Spec PyProof.Rows L2
/-- what is known of a closure's text -/
structure LamT (G : Gl) (m0 : MC) (l : Nat) (N : List Str) (params : Arguments) (body : Expr) (scope : Scope) (L : Lam) : Prop where
  lam : G.lam l = some L
  par : noParB params = true
  kind : scope.kind = .function
  co : scope.isCoroutine = false
  gen : scope.isGenerator = false
  own : ∀ y ∈ scope.names, y.2 ≠ .local ∧ y.2 ≠ .cell
  nl : L.nl = N.length
  nd : N.Nodup
  body : mtE { m0 with N := N, sc := scope, ts := scope, top := false } L.body body = true
  fv : ∀ y ∈ scope.names, y.2 = .free → ∃ i ∈ L.fv, N[i]? = some y.1
variable [Gh]
/-- .. and of the closure -/
def LamI (G : Gl) (m0 : MC) (l : Nat) (f : Addr) (o : HO) (c : Addr) (oc : HO) : Prop := ∃ N params body scope L pm ctv cells qual, LamT G m0 l N params body scope L ∧ o = cellO f (PySem.W.kla_obj "<lambda>" qual params body scope (cloFrom cells scope.names []) pm c ctv) ∧ oc = LamX.CodeO c qual ∧
  (∀ x y a, List.lookup x cells = some a → List.lookup y cells = some a → x = y) ∧ (∀ i a, Gh.S i = some a → ∃ y, N[i]? = some y ∧ List.lookup y cells = some a) ∧ ∀ i j a, Gh.S i = some a → Gh.S j = some a → i = j
/-- the context of a closure's body -/
def lmX (P : Program) (w : World) (K : PySem.W.Frag) (mg : Str → Option Value) (base : Heap) (A : Around) (outer : List Env) (s : Shared) (H : Hp) (E : XK) (N : List Str) (env : Env) : Cx where
  prog := P
  w := w
  K := K
  mg := mg
  base := base
  A := A.deeper env
  N := N
  s_0 := s
  H_0 := H
  env := env
  outer := outer
  stack := env :: outer
  ex := []
  fn := fun _ => false
  calm := true
  pn := []
  xe := fun e s' => wpAny (model P w) (A.deeper env) (leaving env e) (fun _ s'' => L2.CX P w outer H s E e s'') (fun e' s'' => L2.CX P w outer H s E e' s'') s'
section
variable {P : Program} {w : World} {K : PySem.W.Frag} {mg : Str → Option Value} {base : Heap} {A : Around} {outer : List Env} {s : Shared} {H : Hp} {E : XK} {N : List Str} {qual : Str} {scope : Scope} {f c : Addr} {cells : List (Str × Addr)} {σ : L2.St}
theorem cl_up (hfree : ∀ y ∈ scope.names, y.2 = .free → ∃ a, cells.lookup y.1 = some a) {y : Str} {a : Addr} (e : (cloFrom cells scope.names []).lookup y = some a) : cells.lookup y = some a := by
  rcases cloFrom_mem (PySem.mem_of_lookup e) with hm | ⟨h1, h2⟩
  · cases hm
  · obtain ⟨b, hb⟩ := hfree _ h1 rfl
    have hb' : cells.lookup y = some b := hb
    rw [hb'] at h2 ⊢
    rw [h2]
    rfl
theorem cl_has {y : Str} (h : scope.names.lookup y = some .free) : ∃ a, (cloFrom cells scope.names []).lookup y = some a := mem_lookup (cloFrom_has (cells := cells) (acc := []) (PySem.mem_of_lookup h))
theorem lm_inv (e0 : Env0 P w K mg base A outer s H) (hd : A.handled = none) (kind : scope.kind = .function) (own : ∀ y ∈ scope.names, y.2 ≠ .local ∧ y.2 ≠ .cell) (hfree : ∀ y ∈ scope.names, y.2 = .free → ∃ a, cells.lookup y.1 = some a)
    (inj : ∀ x y a, cells.lookup x = some a → cells.lookup y = some a → x = y) (hcell : ∀ y a, (y, NameKind.free) ∈ scope.names → cells.lookup y = some a → H a = none ∧ ∃ v, s.heap.IsCell a v)
    (hloc : ∀ (i : Nat) (y : Str) (v : V), N[i]? = some y → σ[i]? = some (some v) → scope.names.lookup y = some .free → ∃ u a, RelV v u ∧ cells.lookup y = some a ∧ s.heap.IsCell a (some u)) (hlen : σ.length = N.length)
    {h1 : Heap} {tk : Nat} (hns : h1.Ns s.heap.objs.size fun y => ([] : List (Str × Value)).reverse.lookup y) (kp : ∀ b o, s.heap.get? b = some o → h1.get? b = some o) :
    Inv (lmX P w K mg base A outer s H E N (PySem.W.envX qual scope s.heap.objs.size f (.ref c) (cloFrom cells scope.names []))) [] σ H { s with heap := h1, toks := tk } := by
  have cin : ∀ {y : Str} {a : Addr}, (cloFrom cells scope.names []).lookup y = some a → (y, NameKind.free) ∈ scope.names := fun {y a} e => by
    rcases cloFrom_mem (PySem.mem_of_lookup e) with hm | ⟨q, _⟩
    · cases hm
    · exact q
  have cc : ∀ {y : Str} {a : Addr}, (cloFrom cells scope.names []).lookup y = some a → H a = none ∧ ∃ v, s.heap.IsCell a v := fun {y a} e => hcell y a (cin e) (cl_up hfree e)
  have noX : ∀ b : Addr, b ∉ (lmX P w K mg base A outer s H E N (PySem.W.envX qual scope s.heap.objs.size f (.ref c) (cloFrom cells scope.names []))).ex := fun b z => absurd (show b ∈ ([] : List Addr) from z) (by simp)
  constructor
  case ok =>
    constructor
    case mod => exact e0.mod
    case kind => exact kind
    case glob => rfl
    case blt => rfl
    case above => exact Nat.le_refl _
    case inj => exact fun x y a e1 e2 => inj x y a (cl_up hfree e1) (cl_up hfree e2)
    case has =>
      intro y hy
      have hy' : scope.names.lookup y = some .cell ∨ scope.names.lookup y = some .free := hy
      rcases hy' with hy' | hy'
      · exact absurd rfl (own _ (PySem.mem_of_lookup hy')).2
      · exact cl_has hy'
    case cab => exact fun _ _ z => absurd (show false = true from z) Bool.false_ne_true
    case hd => exact fun _ => hd
    case frames => exact Around.frames_deeper e0.frames
    case stk => exact .inr ⟨rfl, rfl⟩
    case exf => exact fun b z => absurd z (noX b)
    case bs => exact e0.bs
    case bsz => exact e0.bsz
    case noex => exact fun b _ _ => noX b
    case exfs => exact fun b z => absurd z (noX b)
    case funs => exact e0.funs
    case frf => exact e0.frf
  case os => rfl
  case bare => exact e0.bare
  case base => exact Un.kept kp
  case loc =>
    refine ⟨_, hns, fun i y v e1 e2 e3 => ?_⟩
    have e3' : scope.names.lookup y = some .local ∨ scope.names.lookup y = some .cell ∨ scope.names.lookup y = some .free := e3
    rcases e3' with k | k | k
    · exact absurd rfl (own _ (PySem.mem_of_lookup k)).1
    · exact absurd rfl (own _ (PySem.mem_of_lookup k)).2
    · obtain ⟨u, a, ru, ha, hc⟩ := hloc i y v e1 e2 k
      obtain ⟨b, hb⟩ := cl_has (cells := cells) k
      have eb := cl_up hfree hb
      rw [ha] at eb
      cases eb
      exact ⟨u, ru, .inr ⟨.inr k, a, hb, hc.keeps kp⟩⟩
  case cell =>
    intro y a e
    obtain ⟨_, v, hv⟩ := cc e
    exact ⟨v, hv.keeps kp⟩
  case free => exact e0.hok.fresh (Nat.le_refl _)
  case freeC => exact fun y a e => (cc e).1
  case pin => exact fun q hq => absurd (show q ∈ ([] : List (Addr × Obj)) ++ [] from hq) (by simp)
  case hok => exact e0.hok.kept kp
  case len => exact hlen
end
section
variable {K : PySem.W.Frag} {mg : Str → Option Value} {FF : List (Addr × HO)} {H H' : Hp} {W W' : Vw} {μ μ' : List Addr} {st st' : Sto} {Q : VK} {E : XK}
/-- a call's end -/
theorem leave_ptx {d : D} {v : V} (hn : μ.length = st.length) (S : SA K mg FF H' W' μ' st') (x : Ex2 W μ W' μ') (rv : Rpa K mg W' μ' d v) (p : PtX K mg (relA K mg) FF W μ (leave st.length d st') Q E) : Q v H' := by
  have gen : (∀ k, d = .mu k → k < st.length) → leave st.length d st' = .ok d (st'.take st.length) → Q v H' := fun h1 h2 => by
    rw [h2] at p
    obtain ⟨S2, x2⟩ := leave_sa hn S x
    exact p v H' W' _ S2 x2 (rv.take h1)
  cases d with
  | mu k =>
    by_cases hk : k < st.length
    · exact gen (fun j ej => by cases ej; exact hk) (by simp [leave, hk])
    · have h2 : leave st.length (.mu k) st' = .ok (.mu k) st' := by simp [leave, hk]
      rw [h2] at p
      exact p v H' W' μ' S x rv
  | clo l => exact False.elim p
  | _ => exact gen (fun j ej => by cases ej) rfl
end
theorem bind_none {qual : Str} {params : Arguments} {body : Expr} {scope : Scope} {cl : List (Str × Addr)} {pm cdv ct : Value} (h : noParB params = true) : bindArgs (PySem.W.kla_fn "<lambda>" qual params body scope cl pm cdv ct) ⟨[], []⟩ = pure [] := by
  unfold noParB at h
  split at h
  · rfl
  · cases h
section
variable {K : PySem.W.Frag} {mg : Str → Option Value} {P : Program} {w : World} {base : Heap} {G : Gl} {m0 : MC}
theorem clo_ok (Z : Wld K mg P w base G m0) (CI : ∀ l f o c oc, Gh.P l f o c oc → LamI G m0 l f o c oc) {k rr : Nat} (h2r : 2 ≤ rr) (F1 : ∀ f a, mg f = some (.ref a) → FnC K mg P w base rr a ((orcAt G k).fn f)) (F2 : ∀ l, CloC K mg P w base rr l ((orcAt G k).clo l)) (l : Nat) :
    CloC K mg P w base (rr + 1) l ((orcAt G (k + 1)).clo l) := by
  rintro A outer s H f Q E hr e0 ⟨FF, st, W, μ, S, r, p⟩
  simp only [Rp] at r
  obtain ⟨f', o, c, oc, ef, hp, hgf, hgc, hne⟩ := r
  cases ef
  obtain ⟨N, params, body, scope, L, pm, ctv, cells, qual, T, rfl, rfl, cinj, hS2, hSi⟩ := CI _ _ _ _ _ hp
  simp only [orcAt, T.lam] at p
  cases he : envS st with
  | none =>
    rw [he] at p
    exact False.elim p
  | some q =>
    obtain ⟨j, is, ys⟩ := q
    rw [he] at p
    dsimp only at p
    split at p
    case isFalse => exact False.elim p
    rename_i hcond
    simp only [Bool.and_eq_true, decide_eq_true_eq] at hcond
    obtain ⟨hnd, hfv⟩ := hcond
    obtain ⟨hj, hoth⟩ := envS_get he
    have hE : EnvR K mg W is ys := S.sto j _ hj
    obtain ⟨cf, vs, rvs, nd, hcf, hin, hfill⟩ := env_cells hE hnd hSi
    have hG : ∀ p ∈ cf, W.G p.1 = some (cellO p.1 p.2) := fun p hp => (hcf p hp).1
    have hS : ∀ p ∈ cf, ∃ i, Gh.S i = some p.1 := fun p hp => ((hcf p hp).2).elim fun i h => ⟨i, h.2⟩
    have hH : ∀ p ∈ cf, H p.1 = some (cellO p.1 p.2) := fun p hp => S.sub _ _ (hG p hp)
    have hat : ∀ p ∈ cf, s.heap.get? p.1 = some p.2 := fun p hp => cell_at (e0.hok _ _ (hH p hp))
    have nf : ∀ p ∈ cf, p.1 ∉ frs outer := fun p hp hm => by
      have := e0.frf _ hm
      rw [hH p hp] at this
      cases this
    have jlt : j < st.length := (List.getElem?_eq_some_iff.mp hj).1
    have S1 : SA K mg FF H W μ (st.set j (.env [] [])) := S.setE hj rfl True.intro rfl
    have S2 := S1.cuts hG hS fun k' is' xs' e => by
      by_cases hk : k' = j
      · subst hk
        rw [List.getElem?_set_self jlt] at e
        cases e
        rfl
      · rw [List.getElem?_set_ne (fun z => hk z.symm)] at e
        exact hoth k' is' xs' hk e
    have e0' := env0_del e0 hH
    have hof : s.heap.get? f = some (PySem.W.kla_obj "<lambda>" qual params body scope (cloFrom cells scope.names []) pm c ctv) := cell_at (e0.hok f _ (S.sub _ _ hgf))
    obtain ⟨⟨oc, vsc, t, hoc, hdc, hvc⟩, _, _⟩ := e0.hok c _ (S.sub _ _ hgc)
    -- the closure's cells
    have fvS : ∀ y ∈ scope.names, y.2 = .free → ∃ i a o u, N[i]? = some y.1 ∧ Gh.S i = some a ∧ cells.lookup y.1 = some a ∧ (a, o) ∈ cf ∧ o.data = .cell (some u) := fun y hy hyf => by
      obtain ⟨i, hi, hN⟩ := T.fv y hy hyf
      have hi2 : i ∈ is := by
        have := List.all_eq_true.mp hfv i hi
        simpa using this
      obtain ⟨a, o, u, hSa, ho, hd⟩ := hin i hi2
      obtain ⟨y', hy', hc'⟩ := hS2 i a hSa
      rw [hN] at hy'
      cases hy'
      exact ⟨i, a, o, u, hN, hSa, hc', ho, hd⟩
    have Qn : ∀ {v : V} {H' : Hp}, True := trivial
    have rc : codeAny (model P w) A (.call (.ref f) ⟨[], []⟩) (CR (L2.CX P w) outer P w (delC H cf) s (fun v H' => (∀ p ∈ cf, H' p.1 = none) → Q v (addC H' cf)) (fun cls dd H' => (∀ p ∈ cf, H' p.1 = none) → E cls dd (addC H' cf))) s := by
      refine PySem.W.kla_callFunE hr.r.depth hof rfl T.co T.gen rfl ⟨c, oc, vsc, t, rfl, hoc, hdc, hvc⟩ ?_
      rw [bind_none T.par]
      refine wpAny_pure (wpAny_newFunctionEnv (fun y hy => (T.own y hy).2) (fun y hy => absurd hy (by simp)) (fun h1 hns hsb => ⟨(e0.mod.nolimit.keeps fun b o e => (e0.bs b o e).1).fresh _ hsb, ?_⟩) T.kind)
      show codeAny _ _ (.expr body (PySem.W.envX qual scope s.heap.objs.size f (.ref c) (cloFrom cells scope.names []))) _ _
      have kp : ∀ b o, s.heap.get? b = some o → h1.get? b = some o := fun b o e => hsb.extBut b o (Nat.ne_of_lt (Heap.lt_size e)) (Heap.get?_push_of_some _ e)
      have J := lm_inv (E := fun cls dd H' => (∀ p ∈ cf, H' p.1 = none) → E cls dd (addC H' cf)) (σ := fillS (List.replicate N.length none) is vs) (N := N) (qual := qual) (f := f) (c := c) (tk := s.toks + ([] : List (Str × Value)).length) e0' hr.r.hd T.kind T.own
        (fun y hy hyf => (fvS y hy hyf).elim fun i h => h.elim fun a h => h.elim fun o h => h.elim fun u h => ⟨a, h.2.2.1⟩) cinj
        (fun y a hy ha => by
          obtain ⟨i, a', o, u, _, _, hc', ho, hd⟩ := fvS _ hy rfl
          have hc'' : cells.lookup y = some a' := hc'
          rw [ha] at hc''
          cases hc''
          exact ⟨delC_in (List.mem_map_of_mem (f := (·.1)) ho), some u, o, hat _ ho, hd⟩)
        (fun i y v hN hσ hk => by
          rcases hfill i v hσ with hσ | ⟨a, o, u, hSa, ho, hd, ru⟩
          · rw [List.getElem?_replicate] at hσ
            split at hσ <;> cases hσ
          · obtain ⟨y', hy', hc'⟩ := hS2 i a hSa
            rw [hN] at hy'
            cases hy'
            exact ⟨u, a, ru, hc', o, hat _ ho, hd⟩)
        (by rw [fillS_len, List.length_replicate]) hns kp
      have CO : CtxOk ⟨G.con, G.isa, G.exs, orcAt G k, G.wf, none⟩ { m0 with N := N, sc := scope, ts := scope, top := false } (lmX P w K mg base A outer s (delC H cf) (fun cls dd H' => (∀ p ∈ cf, H' p.1 = none) → E cls dd (addC H' cf)) N (PySem.W.envX qual scope s.heap.objs.size f (.ref c) (cloFrom cells scope.names []))) (fun cls dd _ H' => (∀ p ∈ cf, H' p.1 = none) → E cls dd (addC H' cf)) rr := {
        hN := rfl
        nd := T.nd
        hsc := rfl
        calm := rfl
        room := hr.deeper _
        tk := takes_of (X := lmX P w K mg base A outer s (delC H cf) (fun cls dd H' => (∀ p ∈ cf, H' p.1 = none) → E cls dd (addC H' cf)) N (PySem.W.envX qual scope s.heap.objs.size f (.ref c) (cloFrom cells scope.names []))) rfl rfl rfl rfl
        tl := fun x hx => by
          have hx' : locB scope x = true := hx
          unfold locB at hx'
          split at hx'
          · rename_i e
            exact absurd rfl (T.own _ (PySem.mem_of_lookup e)).1
          · rename_i e
            exact absurd rfl (T.own _ (PySem.mem_of_lookup e)).2
          · cases hx'
        con := Z.con
        isa := Z.isa
        cns := Z.cns
        bn := Z.bn
        gcd := Z.gcd
        fns := Z.fns
        fnc := F1
        clo := F2
        clf := Z.clf
        top := fun h => nomatch h
        k2 := by omega
        exc := Z.exc
        exm := Z.exm }
      refine PySem.W.kla_codeExpr (wpAny_mono ((sndE CO L.body body T.body).run [] _ _ _ (fun v H' => (∀ p ∈ cf, H' p.1 = none) → Q v (addC H' cf)) J ⟨FF, fillE (List.replicate L.nl none) is ys, st.set j (.env [] []), W.cut cf, μ, S2, ?_, ?_⟩) (fun v s' hq => ?_) fun e s' hq => hq)
      · refine fillS_re ⟨by simp [T.nl], fun i d e => ?_⟩ (Rps.cut hG hS rvs)
        rw [List.getElem?_replicate] at e
        split at e <;> cases e
      · have fin : ∀ {H' : Hp} {W' : Vw} {μ' : List Addr} {s' : Sto}, SA K mg FF H' W' μ' s' → Ex2 (W.cut cf) μ W' μ' → s'[j]? = some (.env [] []) → (∀ p ∈ cf, H' p.1 = none) → SA K mg FF (addC H' cf) (W'.add cf) μ' (s'.set j (.env is ys)) ∧ Ex2 W μ (W'.add cf) μ' ∧ LeW W' (W'.add cf) := fun {H' W' μ' s'} S' x' hj' hz => by
          have le3 : LeW W' (W'.add cf) := LeW.add nd fun p hp => by
            cases e : W'.G p.1 with
            | none => rfl
            | some u =>
              have := S'.sub _ _ e
              rw [hz p hp] at this
              cases this
          have leW : LeW W (W'.add cf) := ⟨fun a o h => by
            show addC W'.G cf a = some o
            by_cases ha : a ∈ cf.map (·.1)
            · obtain ⟨p, hp, rfl⟩ := mem_fst ha
              rw [addC_in nd p hp, ← hG p hp]
              exact h
            · rw [addC_ne ha]
              refine x'.w.g a o ?_
              show delC W.G cf a = some o
              rw [delC_ne ha]
              exact h⟩
          exact ⟨(S'.adds nd hz).setE hj' rfl (EnvR.mono leW hE) rfl, ⟨leW, x'.m⟩, le3⟩
        have hlen : μ.length = st.length := S.len
        cases ee : evE ⟨G.con, G.isa, G.exs, orcAt G k, G.wf, none⟩ L.body (fillE (List.replicate L.nl none) is ys) (st.set j (.env [] [])) with
        | no =>
          rw [ee] at p
          exact False.elim p
        | ok d s' =>
          rw [ee] at p
          dsimp only at p
          split at p
          · rename_i hj'
            intro v H' W' μ' S' x' rv hz
            obtain ⟨S3, x3, le3⟩ := fin S' x' hj' hz
            exact leave_ptx hlen S3 x3 (rv.mono ⟨le3, [], by simp⟩) p
          · exact False.elim p
        | exc y s' =>
          rw [ee] at p
          dsimp only at p
          split at p
          · rename_i hj'
            intro H' W' μ' cls dd S' x' ry hz
            obtain ⟨S3, x3, le3⟩ := fin S' x' hj' hz
            obtain ⟨S4, x4⟩ := leave_sa hlen S3 x3
            obtain ⟨Cx, aa, fs, h1, h2, h3, h4, h5⟩ := ry
            exact p _ _ _ cls dd S4 x4 ⟨Cx, aa, fs, h1, h2, h3, le3.g _ _ h4, fun f d e => (h5 f d e).elim fun v hv => ⟨v, hv.1, hv.2.mono le3⟩⟩
          · exact False.elim p
      · obtain ⟨w', H', J', rv, q⟩ := hq
        exact ⟨w', H', J'.os, J'.bare, J'.base, J'.hok, rv, q⟩
    refine codeAny_mono rc fun r s' hq => ?_
    cases r with
    | error e =>
      obtain ⟨a, B, H', cls, d, rfl, fl, hok, ub, na, os, ag, hE'⟩ := hq
      obtain ⟨n2, ub2, hok2⟩ := ub_add nd hH e0.hok nf ub hok
      refine ⟨a, B, addC H' cf, cls, d, rfl, fl, hok2, ub2, ?_, os, ag, hE' fun p hp => (n2 p hp).1⟩
      rw [addC_ne fun hm => ?_]
      · exact na
      · obtain ⟨p, hp, e⟩ := mem_fst hm
        have := (n2 p hp).2
        rw [e, fl.2.1] at this
        cases this
    | ok fl =>
      cases fl with
      | ret u =>
        obtain ⟨v, H', os, bare, un, hok, rv, q⟩ := hq
        obtain ⟨n2, un2, hok2⟩ := un_add nd hH e0.hok nf un hok
        exact ⟨v, addC H' cf, os, bare, un2, hok2, rv, q n2⟩
      | next => exact hq
      | brk => exact hq
      | cont => exact hq
end
end Ev
end
section
set_option Elab.async false
set_option linter.all false
set_option maxRecDepth 100000
set_option maxHeartbeats 4000003
namespace Ev
open PySem PySem.Spec PyProof.Rows L2
/-! ### from the law's call at the claim's caller -/
section
variable {P : Program} {w : World} {K : PySem.W.Frag} {mg mb : Str → Option Value} {fa a c T : Addr} {s1 : Shared} {vs : List Value} {ns : List Int}
/-- what stays told while the law runs: the script, if the head's part does not know it; the table -/
def hLaw (K : PySem.W.Frag) (a T : Addr) (vs : List Value) (ns : List Int) : Hp := fun b => if b = T then some (.tbl #[]) else if b = a ∧ K.lookup a = none then some (.frz { cls := .type "list", data := .seq vs.toArray } (.lst (ns.map V.int))) else none
theorem hLaw_T : hLaw K a T vs ns T = some (.tbl #[]) := if_pos rfl
theorem hLaw_a (h : a ≠ T) (hk : K.lookup a = none) : hLaw K a T vs ns a = some (.frz { cls := .type "list", data := .seq vs.toArray } (.lst (ns.map V.int))) := (if_neg h).trans (if_pos ⟨rfl, hk⟩)
theorem hLaw_some {b : Addr} {u : HO} (h : hLaw K a T vs ns b = some u) : (b = T ∧ u = .tbl #[]) ∨ (b = a ∧ K.lookup a = none ∧ u = .frz { cls := .type "list", data := .seq vs.toArray } (.lst (ns.map V.int))) := by
  unfold hLaw at h
  split at h
  · rename_i e
    exact .inl ⟨e, (Option.some.inj h).symm⟩
  · split at h
    · rename_i e
      exact .inr ⟨e.1, e.2, (Option.some.inj h).symm⟩
    · cases h
theorem law_end (KX : K.In s1.heap) (hns : s1.heap.Ns mainGlobals mg) (hb : s1.heap.Ns builtinsNs mb) (hbb : ∀ x : Str, x ≠ "__name__" → mb x = bootBuiltins x) (hlim : s1.heap.NoLimit) (hg : s1.gens = #[])
    (hT : s1.heap.get? T = some { cls := .none, data := .fields #[] }) (nT : K.lookup T = none) (C : PySem.W.CodeHd s1.heap c T)
    (hbm : ∃ (bm : Addr) (ob : Obj), mg "__builtins__" = some (.ref bm) ∧ bm ≠ builtinsNs ∧ s1.heap.get? bm = some ob ∧ ob.cls = .type "module" ∧ ob.dict = some builtinsNs ∧ ob.data = .plain)
    (ha : s1.heap.get? a = some { cls := .type "list", data := .seq vs.toArray }) (hi : IntsAre vs ns) (hl : ns.length ≤ sizeLine)
    (F : ∀ (base : Heap) (H : Hp), L2.Mod K mg base → LamX.TabB base mg c T → H T = some (.tbl #[]) → SqL K H a (ns.map V.int) → Env0 P w K mg base callerA [] s1 H →
      codeAny (model P w) callerA (.call (.ref fa) ⟨[.ref a], []⟩) (CR (L2.CX P w) [] P w H s1 (fun v _ => v = .bl true) fun _ _ _ => False) s1) :
    codeAny (model P w) callerA (.call (.ref fa) ⟨[.ref a], []⟩) (fun r s' => r = .ok (.ret (.bool true)) ∧ OldK s1.heap s'.heap ∧ s'.os = s1.os ∧ AllBare s'.gens) s1 := by
  have rv := vals_ints hi
  have aT : a ≠ T := fun z => by
    rw [z, hT] at ha
    cases ha
  have hok : HOk P w (hLaw K a T vs ns) s1.heap := fun b u e => by
    rcases hLaw_some e with ⟨rfl, rfl⟩ | ⟨rfl, _, rfl⟩
    · exact hT
    · exact ⟨ha, by rw [List.length_map]; exact hl, vs, _, rv, ha⟩
  have free : ∀ {b : Addr} {o : Obj}, s1.heap.get? b = some o → (∀ xs n, o.data ≠ .seq xs n) → o.data ≠ .fields #[] → hLaw K a T vs ns b = none := fun {b o} e n1 n2 => by
    cases q : hLaw K a T vs ns b with
    | none => rfl
    | some u =>
      rcases hLaw_some q with ⟨rfl, _⟩ | ⟨rfl, _, _⟩
      · rw [hT] at e
        cases e
        exact absurd rfl n2
      · rw [ha] at e
        cases e
        exact absurd rfl (n1 _ _)
  have low : ∀ {b : Addr} {o : Obj}, s1.heap.get? b = some o → (∀ xs n, o.data ≠ .seq xs n) → o.data ≠ .fields #[] → (hidT s1.heap (hLaw K a T vs ns)).get? b = some o := fun e n1 n2 => hidT_get e (free e n1 n2)
  have nsD : ∀ {b : Addr} {mm : Str → Option Value}, s1.heap.Ns b mm → (hidT s1.heap (hLaw K a T vs ns)).Ns b mm := fun {b mm} ⟨o, es, ep, e, d, r⟩ => ⟨o, es, ep, low e (fun _ _ z => by rw [d] at z; cases z) (fun z => by rw [d] at z; cases z), d, r⟩
  have kb : K.In (hidT s1.heap (hLaw K a T vs ns)) := fun b o e => hidT_get (KX b o e) (by
    cases q : hLaw K a T vs ns b with
    | none => rfl
    | some u =>
      rcases hLaw_some q with ⟨rfl, _⟩ | ⟨rfl, hk, _⟩
      · rw [nT] at e
        cases e
      · rw [hk] at e
        cases e)
  have M : L2.Mod K mg (hidT s1.heap (hLaw K a T vs ns)) := ⟨kb, nsD hns, ⟨mb, nsD hb, hbb⟩, hlim.elim fun mc z => ⟨mc, nsD z.1, z.2⟩⟩
  have TB : LamX.TabB (hidT s1.heap (hLaw K a T vs ns)) mg c T := by
    constructor
    · obtain ⟨o, us, file, tf, flags, tg, inF, text, tt, e1, r1, r2, r3, rest⟩ := C
      exact ⟨o, us, file, tf, flags, tg, inF, text, tt, low e1 (fun _ _ z => by rw [r2] at z; cases z) (fun z => by
        rw [r2] at z
        cases z
        simp at r3), r1, r2, r3, rest⟩
    · obtain ⟨bm, ob, b1, b2, b3, b4, b5, b6⟩ := hbm
      refine ⟨bm, ob, b1, b2, fun q => ?_, fun q => ?_, low b3 (fun _ _ z => by rw [b6] at z; cases z) (fun z => by rw [b6] at z; cases z), b4, b5, b6⟩
      · obtain ⟨o, es, ep, e, d, _⟩ := hns
        rw [q, e] at b3
        cases b3
        rw [d] at b6
        cases b6
      · rw [q, hT] at b3
        cases b3
        cases b6
    · intro z
      obtain ⟨o, es, ep, e, d, _⟩ := hns
      rw [z, hT] at e
      cases e
      cases d
  have sq : SqL K (hLaw K a T vs ns) a (ns.map V.int) := by
    cases hk : K.lookup a with
    | none => exact .inl (.inr ⟨_, hLaw_a aT hk⟩)
    | some o =>
      have e := KX a o hk
      rw [ha] at e
      cases e
      exact .inr ⟨_, vs.toArray, _, hk, rfl, rfl, rfl, by rw [List.size_toArray, hi.length]; exact hl, by simpa using rv⟩
  have e0 : Env0 P w K mg (hidT s1.heap (hLaw K a T vs ns)) callerA [] s1 (hLaw K a T vs ns) := ⟨rfl, M, fun b o e => of_hidT e, Nat.le_of_eq (hidT_size _ _), trivial, fun b hm => absurd (show b ∈ ([] : List Addr) from hm) (by simp), hok, .of_eq hg⟩
  refine codeAny_mono (F _ _ M TB hLaw_T sq e0) fun r s' h => ?_
  cases r with
  | error e =>
    obtain ⟨_, _, _, _, _, _, _, _, _, _, _, _, z⟩ := h
    exact z.elim
  | ok fl =>
    cases fl with
    | next => exact False.elim h
    | brk => exact False.elim h
    | cont => exact False.elim h
    | ret u =>
      obtain ⟨v, H', os, bare, un, hok', r', rfl⟩ := h
      obtain rfl : u = Value.bool true := r'
      have keep : ∀ b o, b ≠ T → s1.heap.get? b = some o → s'.heap.get? b = some o := fun b o nb e => by
        cases q : hLaw K a T vs ns b with
        | none => exact un.keep b o e q (fun z => absurd (show b ∈ ([] : List Addr) from z) (by simp)) (by simp)
        | some u =>
          rcases hLaw_some q with ⟨z, _⟩ | ⟨_, _, rfl⟩
          · exact absurd z nb
          · have e1 := (hok b _ q).1
            have e2 := (hok' b _ (un.frzs b _ _ q)).1
            rw [e] at e1
            cases e1
            exact e2
      obtain ⟨more, zm⟩ := un.tbls T #[] hLaw_T
      have tab' : s'.heap.get? T = some { cls := .none, data := .fields (#[] ++ more) } := hok' T _ zm
      refine ⟨rfl, ⟨fun b o e => ?_, fun b o e => ?_⟩, os, bare⟩
      · by_cases hb : b = T
        · subst hb
          rw [hT] at e
          cases e
          exact .inr (.inl ⟨(C.tab hT).isCodeTable, rfl, #[], more, rfl, tab'⟩)
        · exact .inl (keep b o hb e)
      · by_cases hb : b = T
        · exact ⟨_, by rw [hb]; exact tab'⟩
        · exact ⟨o, keep b o hb e⟩
end
/-- what is known of the law at the head's heap h -/
def EvAt (P : Program) (w : World) (K : PySem.W.Frag) (n : Nat) (mg : Str → Option Value) (fa : Addr) (h : Heap) : Prop := ∃ c T : Addr, h.get? T = some { cls := .none, data := .fields #[] } ∧ K.lookup T = none ∧ PySem.W.CodeHd h c T ∧
  ∀ (base : Heap) (H : Hp) (s1 : Shared) (a : Addr) (ns : List Int), ns.length ≤ n → (∀ z ∈ ns, Builtin.Int.intBits z ≤ 1048576) → L2.Mod K mg base → LamX.TabB base mg c T → H T = some (.tbl #[]) → SqL K H a (ns.map V.int) → Env0 P w K mg base callerA [] s1 H →
    codeAny (model P w) callerA (.call (.ref fa) ⟨[.ref a], []⟩) (CR (L2.CX P w) [] P w H s1 (fun v _ => v = .bl true) fun _ _ _ => False) s1
theorem walk_ev {l : PySem.W.OpenLaw} {n : Nat} {q : Program} {loose : List Str} {XP : (Str → Option Value) → Heap → Prop} {YP : World → Heap → Prop} {d : DefRec} (hn : l.most = some n) (hn2 : n ≤ sizeLine) (hdf : d.params.defaults = [])
    (F : ∀ (w : World) (mg : Str → Option Value) (fa : Addr) (h : Heap), YP w h → h.Ns mainGlobals mg → mg d.name = some (.ref fa) → ∃ K : PySem.W.Frag, K.In h ∧ EvAt l.prog w K n mg fa h) : PySem.W.WalkO q loose XP YP l.row.toRowW d [] (fun f vs => PySem.call f vs) := by
  refine Att.attach_callB hn hdf fun w s0 s1 mg mb fa o pm cd doc a vs ns G Y ho hd hcd hmg hobj hints hlen hbits hg => ?_
  obtain ⟨K, KX, c, T, hT, nT, C, hF⟩ := F w mg fa _ Y G.T.g hmg
  exact law_end KX G.T.g G.T.b G.T.builtins G.T.nolimit hg hT nT C G.T.bmain hobj hints (Nat.le_trans hlen hn2) fun base H M TB e1 e2 e3 => hF base H s1 a ns hlen hbits M TB e1 e2 e3
end Ev
end
section
set_option Elab.async false
set_option linter.all false
set_option maxRecDepth 100000
set_option maxHeartbeats 4000003
namespace Ev
open PySem PySem.Spec PyProof.Rows L2
/-! ### a new instance by its class's __init__ -/
theorem putF_new {f : Str} {v : V} : ∀ {acc : List (Str × V)}, f ∉ acc.map (·.1) → putF f v acc = acc ++ [(f, v)]
  | [], _ => rfl
  | (g, x) :: r, h => by
    rw [List.map_cons, List.mem_cons] at h
    have ne : ¬ g = f := fun z => h (.inl z.symm)
    show (if g = f then (g, v) :: r else (g, x) :: putF f v r) = _
    rw [if_neg ne, putF_new fun z => h (.inr z)]
    rfl
theorem bind_full {name qual : Str} {as : List Arg} {dx : List Expr} {body : List Stmt} {scope : Scope} {kV doc pm d : Value} {T : Addr} {an : Option Addr} {cdv ct : Value} {us : List Value} (hl : us.length = as.length) (h0 : 0 < as.length) (nd : (as.map (·.arg)).Nodup) :
    ∃ k, bindArgs (PySem.W.fnOf name qual ⟨[], as, none, [], [], none, dx⟩ body scope (.ref T) kV doc pm an cdv ct) ⟨us, []⟩ = seqItems? (.ref T) >>= k ∧ k (some #[d]) = pure ((as.map (·.arg)).zip us) := by
  obtain ⟨qs, q, hq⟩ : ∃ qs q, as.map (·.arg) = qs ++ [q] := by
    have hne : as.map (·.arg) ≠ [] := by
      intro z
      have := congrArg List.length z
      simp at this
      subst this
      simp at h0
    exact ⟨_, _, (List.dropLast_concat_getLast hne).symm⟩
  have hlq : us.length = (qs ++ [q]).length := by
    have := congrArg List.length hq
    simp at this
    simp
    omega
  have hfm := fm_zip (ps := qs ++ [q]) (us := us) hlq (hq ▸ nd)
  have hql : (((qs ++ [q]).zip us).lookup q).isNone = false := zip_some hlq (by simp)
  have hql2 : ∃ u, ((qs ++ [q]).zip us).lookup q = some u := by
    cases e : ((qs ++ [q]).zip us).lookup q with
    | none => rw [e] at hql; cases hql
    | some u => exact ⟨u, rfl⟩
  obtain ⟨u, hu⟩ := hql2
  unfold bindArgs PySem.W.fnOf
  refine ⟨_, rfl, ?_⟩
  have hal : as.length = qs.length + 1 := by rw [← hl, hlq]; simp
  have e1 : ¬ (us.length > as.length) := by omega
  have e2 : List.drop qs.length (as.map (·.arg)) = [q] := by rw [hq]; simp
  have e3 : List.take qs.length (as.map (·.arg)) = qs := by rw [hq]; simp
  have e4 : (List.filter (fun n => (((qs ++ [q]).zip us).lookup n).isNone) qs) = [] := by
    rw [List.filter_eq_nil_iff]
    intro a ha
    rw [zip_some hlq (by simp [ha])]
    simp
  rw [List.filterMap_append] at hfm
  simp [e1, e2, e3, e4, hq, hal, hu, hfm]
  rw [if_neg (by omega)]
  have hq1 : List.filterMap (fun n => Option.map (fun x => (n, x)) (List.lookup n ((qs ++ [q]).zip us))) [q] = [(q, u)] := by simp [hu]
  rw [hq1] at hfm
  rw [hfm]
theorem frzs_len [Gh] : ∀ {ds ds' : List D} {st st' : Sto}, frzDs ds st = .ok ds' st' → ds'.length = ds.length
  | [], ds', st, st', h => by
    cases h
    rfl
  | d :: ds, ds', st, st', h => by
    obtain ⟨d', s1, h1, h2⟩ := bnd_inv (f := fun x => bnd (frzDs ds) fun xs => ret (x :: xs)) h
    obtain ⟨ds2, s2, h3, h4⟩ := bnd_inv h2
    cases h4
    rw [List.length_cons, List.length_cons, frzs_len h3]
variable [Gh]
/-- the stores of __init__, as they are read -/
def tIni (K : PySem.W.Frag) (C : Cx') (X : Cx) (WE : WX) : List Str → Es → TS
  | f :: fs, .cons e r => tSeq (sFld K (tVar 0) (RdE C X WE e) f) (tIni K C X WE fs r)
  | _, _ => tNext
section
variable {C : Cx'} {m : MC} {X : Cx} {WE : WX} {k : Nat}
theorem pss_ini (c : CtxOk C m X WE k) : ∀ {fs : List Str} {es : Es} {b : List Stmt}, stC m fs es b = true → PSs X b (tIni X.K C X WE fs es)
  | [], .nil, [], _ => pss_nil
  | [], .nil, _ :: _, h => by simp [stC] at h
  | [], .cons _ _, _, h => by simp [stC] at h
  | _ :: _, .nil, _, h => by simp [stC] at h
  | _ :: _, .cons _ _, [], h => by simp [stC] at h
  | f :: fs, .cons e r, s :: b, h => by
    simp only [stC] at h
    split at h
    · rename_i x p1 g p2 v p3
      simp only [Bool.and_eq_true, decide_eq_true_eq] at h
      obtain ⟨⟨⟨⟨g1, rfl⟩, g3⟩, g4⟩, h2⟩ := h
      obtain ⟨v1, v2, v3, v4⟩ := c.var g1
      exact pss_cons (ps_fld (pe_var v1 v2 v3 v4) (sndE c e v g3) (nlc_swap g4 _ _ _)) (pss_ini c h2)
    · cases h
theorem ini_go {Cc dx x : Addr} (cl : Cls X.K Cc) {FF : List (Addr × HO)} (hf : ∀ q ∈ FF, q.1 ≠ x) {D : Ends} {σ : L2.St} (h0 : σ[0]? = some (some (.ref x))) : ∀ {fs : List Str} {es : Es} {acc : List (Str × V)} {H : Hp} {W : Vw} {μ : List Addr} {st : Sto} {env : En},
    SA X.K X.mg ((x, .ins Cc dx acc) :: FF) H W μ st → RE X.K X.mg W μ σ env → (∀ f ∈ fs, NoAttr X.K Cc f) → (∀ f ∈ fs, f ∉ acc.map (·.1)) → fs.Nodup → acc.length + fs.length ≤ 900 →
    (match evEs C es env st with
      | .ok ds st' => ds.length = fs.length ∧ ∀ H' W' μ' vs, SA X.K X.mg ((x, .ins Cc dx (acc ++ fs.zip vs)) :: FF) H' W' μ' st' → Ex2 W μ W' μ' → Rpas X.K X.mg W' μ' ds vs → D.nx σ H'
      | _ => False) → tIni X.K C X WE fs es D σ H
  | [], .nil, acc, H, W, μ, st, env, S, E, _, _, _, _, p => by
    obtain ⟨_, p⟩ := p
    exact p H W μ [] (by simpa using S) (Ex2.refl _ _) rfl
  | [], .cons e r, acc, H, W, μ, st, env, S, E, _, _, _, _, p => by
    exfalso
    have e0 : evEs C (.cons e r) env st = bnd (evE C e env) (fun x => bnd (evEs C r env) fun xs => ret (x :: xs)) st := rfl
    rw [e0] at p
    unfold bnd at p
    cases h1 : evE C e env st with
    | ok d st1 =>
      rw [h1] at p
      dsimp only at p
      cases h2 : evEs C r env st1 with
      | ok ds st2 =>
        rw [h2] at p
        have := p.1
        simp at this
      | _ => rw [h2] at p; exact p
    | _ => rw [h1] at p; exact p
  | f :: fs, .nil, acc, H, W, μ, st, env, S, E, _, _, _, _, p => by
    have := p.1
    simp at this
  | f :: fs, .cons e r, acc, H, W, μ, st, env, S, E, na, nk, nd, hl, p => by
    have e0 : evEs C (.cons e r) env st = bnd (evE C e env) (fun x => bnd (evEs C r env) fun xs => ret (x :: xs)) st := rfl
    rw [e0] at p
    unfold bnd at p
    obtain ⟨n1, n2⟩ := List.nodup_cons.mp nd
    cases h1 : evE C e env st with
    | exc _ _ => rw [h1] at p; exact p.elim
    | no => rw [h1] at p; exact p.elim
    | ok d st1 =>
      rw [h1] at p
      dsimp only at p
      refine ⟨_, env, st, W, μ, S, E, ?_⟩
      rw [h1]
      intro v H1 W1 μ1 S1 x1 r1
      refine ⟨.ref x, h0, x, Cc, dx, acc, rfl, (S1.freeT hf).2, cl, na f List.mem_cons_self, by simp at hl; omega, ?_⟩
      have S2 := S1.ffw (o' := .ins Cc dx (putF f v acc)) hf
      rw [putF_new (nk f List.mem_cons_self)] at S2 ⊢
      refine ini_go cl hf h0 (fs := fs) (es := r) S2 (E.mono x1) (fun g hg => na g (List.mem_cons_of_mem _ hg)) (fun g hg => ?_) n2 (by simp at hl ⊢; omega) ?_
      · rw [List.map_append, List.mem_append]
        rintro (z | z)
        · exact nk g (List.mem_cons_of_mem _ hg) z
        · have : g = f := by simpa using z
          exact n1 (this ▸ hg)
      · cases h2 : evEs C r env st1 with
        | ok ds st2 =>
          rw [h2] at p
          dsimp only at p ⊢
          obtain ⟨p1, p2⟩ := p
          refine ⟨by simpa using p1, fun H' W' μ' vs S' x' r' => ?_⟩
          refine p2 H' W' μ' (v :: vs) ?_ (x1.trans x') ⟨v, vs, rfl, r1.mono x', r'⟩
          have ea : acc ++ [(f, v)] ++ fs.zip vs = acc ++ (f :: fs).zip (v :: vs) := by simp
          rw [← ea]
          exact S'
        | exc _ _ => rw [h2] at p; exact p.elim
        | no => rw [h2] at p; exact p.elim
end
section
variable {K : PySem.W.Frag} {mg : Str → Option Value} {P : Program} {w : World} {base : Heap} {G : Gl} {m0 : MC}
theorem RoomG.make {k : Nat} {A : Around} (r : RoomG (k + 1) A) (C : Addr) (us : List Value) (kw : List (Str × Value)) : RoomG k (A.under (.builtin "type.__call__" ⟨.ref C :: us, kw⟩)) := ⟨r.r.make C us kw, by
  have := r.g
  simpa [Around.under, Code.guards, Code.isGuard, guardIds, pushGuards] using this⟩
theorem FnC.mono {j k : Nat} {a : Addr} {fn : List D → M D} (F : FnC K mg P w base j a fn) (h : j ≤ k) : FnC K mg P w base k a fn := fun A outer s H us vs Q E hr => F A outer s H us vs Q E ⟨hr.r.mono h, hr.g⟩
theorem CloC.mono {j k : Nat} {a : Nat} {fn : M D} (F : CloC K mg P w base j a fn) (h : j ≤ k) : CloC K mg P w base k a fn := fun A outer s H f Q E hr => F A outer s H f Q E ⟨hr.r.mono h, hr.g⟩
/-- a new instance, without attributes -/
theorem env0_made {A : Around} {outer : List Env} {s : Shared} {H : Hp} {C : Addr} (e : Env0 P w K mg base A outer s H) : Env0 P w K mg base A outer { s with heap := (s.heap.push PySem.W.emptyDict).push (PySem.W.instObj C s.heap.objs.size) }
    (upd (upd H s.heap.objs.size (.own (s.heap.objs.size + 1))) (s.heap.objs.size + 1) (.ins C s.heap.objs.size [])) ∧
    Un (frs outer) [] H (upd (upd H s.heap.objs.size (.own (s.heap.objs.size + 1))) (s.heap.objs.size + 1) (.ins C s.heap.objs.size [])) s.heap ((s.heap.push PySem.W.emptyDict).push (PySem.W.instObj C s.heap.objs.size)) := by
  have e1 : (s.heap.push PySem.W.emptyDict).get? s.heap.objs.size = some PySem.W.emptyDict := Heap.get?_push_size s.heap rfl
  have e2 : ((s.heap.push PySem.W.emptyDict).push (PySem.W.instObj C s.heap.objs.size)).get? (s.heap.objs.size + 1) = some (PySem.W.instObj C s.heap.objs.size) := by
    have := Heap.get?_push_size (s.heap.push PySem.W.emptyDict) (o := PySem.W.instObj C s.heap.objs.size) rfl
    rwa [Heap.size_push] at this
  have e3 : (s.heap.push PySem.W.emptyDict).Ns s.heap.objs.size (fun _ => none) := ⟨PySem.W.emptyDict, #[], _, e1, rfl, (fun e he => absurd he (by simp)), fun _ => rfl⟩
  have ne : s.heap.objs.size ≠ s.heap.objs.size + 1 := Nat.ne_of_lt (Nat.lt_succ_self _)
  have k1 : ∀ b u, s.heap.get? b = some u → (s.heap.push PySem.W.emptyDict).get? b = some u := fun b u q => Heap.get?_push_of_some _ q
  have k2 : ∀ b u, (s.heap.push PySem.W.emptyDict).get? b = some u → ((s.heap.push PySem.W.emptyDict).push (PySem.W.instObj C s.heap.objs.size)).get? b = some u := fun b u q => Heap.get?_push_of_some _ q
  have z1 : (s.heap.push PySem.W.emptyDict).objs.size = s.heap.objs.size + 1 := Heap.size_push _ _
  have z2 : ((s.heap.push PySem.W.emptyDict).push (PySem.W.instObj C s.heap.objs.size)).objs.size = s.heap.objs.size + 1 + 1 := (Heap.size_push _ _).trans (congrArg (· + 1) z1)
  have hn : H s.heap.objs.size = none := e.hok.fresh (Nat.le_refl _)
  have hn1 : (upd H s.heap.objs.size (.own (s.heap.objs.size + 1))) (s.heap.objs.size + 1) = none := by
    rw [upd_ne (Ne.symm ne)]
    exact e.hok.fresh (Nat.le_succ _)
  have hok1 : HOk P w (upd H s.heap.objs.size (.own (s.heap.objs.size + 1))) (s.heap.push PySem.W.emptyDict) := e.hok.laid k1 (Nat.le_refl _) ⟨_, e1⟩
  have hok2 : HOk P w (upd (upd H s.heap.objs.size (.own (s.heap.objs.size + 1))) (s.heap.objs.size + 1) (.ins C s.heap.objs.size [])) ((s.heap.push PySem.W.emptyDict).push (PySem.W.instObj C s.heap.objs.size)) := by
    refine hok1.laid k2 (Nat.le_of_eq z1) ?_
    refine ⟨by rw [upd_ne ne, upd_same], Nat.zero_le _, ne, e2, fun _ => none, (Heap.Ns1.of_empty e3).at fun o q => Heap.get?_push_of_some _ q, fun _ => True.intro, fun y hy => absurd rfl hy⟩
  have low : ∀ {b : Addr}, b < s.heap.objs.size → (upd (upd H s.heap.objs.size (.own (s.heap.objs.size + 1))) (s.heap.objs.size + 1) (.ins C s.heap.objs.size [])) b = H b := fun {b} h => by
    rw [upd_ne (Nat.ne_of_lt (Nat.lt_succ_of_lt h)), upd_ne (Nat.ne_of_lt h)]
  refine ⟨⟨e.frames, e.mod, fun b o q => ?_, ?_, ?_, fun b hb => ?_, hok2, e.bare⟩, ?_⟩
  · obtain ⟨q1, q2⟩ := e.bs b o q
    exact ⟨k2 _ _ (k1 _ _ q1), (low (Heap.lt_size q1)).trans q2⟩
  · show base.objs.size ≤ ((s.heap.push PySem.W.emptyDict).push (PySem.W.instObj C s.heap.objs.size)).objs.size
    rw [z2]
    exact Nat.le_trans e.bsz (by omega)
  · exact e.funs.of_keeps fun b o q _ => ⟨o, k2 _ _ (k1 _ _ q), rfl⟩
  · obtain ⟨_, o, ho, _⟩ := e.funs.mem hb
    exact (low (Heap.lt_size ho)).trans (e.frf b hb)
  · exact Un.trans (Un.laid k1 (Nat.le_refl _) hn) (Un.laid k2 (Nat.le_of_eq z1) hn1)
theorem cls_ok (Z : Wld K mg P w base G m0) {k rr : Nat} (h2r : 2 ≤ rr) (F1 : ∀ f a, mg f = some (.ref a) → FnC K mg P w base rr a ((orcAt G k).fn f)) (F2 : ∀ l, CloC K mg P w base rr l ((orcAt G k).clo l)) {cn : Str} {C : Cl} (hc : G.cls cn = some C) (hf : G.fn cn = none) {a : Addr} (ha : mg cn = some (.ref a)) :
    FnC K mg P w base (rr + 2) a ((orcAt G (k + 1)).fn cn) := by
  obtain ⟨d, rfl, okd, hd⟩ := Z.cl cn C hc
  obtain ⟨f, fd, qual, dvs, M, CO, FD, hdl, hdv⟩ := hd a ha
  unfold Clx.okB at okd
  simp only [Bool.and_eq_true, decide_eq_true_eq] at okd
  obtain ⟨⟨⟨⟨⟨⟨⟨⟨o1, o2⟩, o3⟩, o4⟩, o5⟩, o6⟩, o7⟩, o8⟩, o9⟩ := okd
  have SC := C8.fnScope_by o1
  have hpar : ∃ dx, d.params = ⟨[], d.params.args, none, [], [], none, dx⟩ ∧ dx.length ≤ 1 ∧ d.params.defaults = dx := by
    cases hp : d.params with
    | mk a b c d' e f g =>
      rw [hp] at o2
      cases a <;> cases c <;> cases d' <;> cases e <;> cases f <;> first | exact ⟨g, rfl, of_decide_eq_true o2, rfl⟩ | cases o2
  obtain ⟨dx, hpar, hdx, hdd⟩ := hpar
  obtain ⟨oc, od, dV, kV, doc, pm, an, cdv, ct, osl, rfl, lk, hcd, hD, hK⟩ := FD.ex
  rintro A outer s H us vs Q E hr e0 r ⟨FF, st, W, μ, ds, S, rp, p⟩
  have eo : (orcAt G (k + 1)).fn cn ds = (match fillA d.C.np d.C.dfl ds with
      | some ys => (fun s => match evEs ⟨G.con, G.isa, G.exs, orcAt G k, G.wf, none⟩ d.C.es (none :: ys.map some) s with
        | .ok zs s' => (match frzDs zs s' with
          | .ok zs s' => if decide (d.C.fs.length = zs.length) then .ok (.obj cn d.C.fs zs) (s'.take s.length) else .no
          | _ => .no)
        | _ => .no)
      | none => no) := by
    simp only [orcAt, hf, hc]
    try rfl
  rw [eo] at p
  cases hfill : fillA d.C.np d.C.dfl ds with
  | none => rw [hfill] at p; exact False.elim p
  | some ys =>
  rw [hfill] at p
  dsimp only at p
  cases hev : evEs ⟨G.con, G.isa, G.exs, orcAt G k, G.wf, none⟩ d.C.es (none :: ys.map some) st with
  | exc _ _ => rw [hev] at p; exact False.elim p
  | no => rw [hev] at p; exact False.elim p
  | ok zs s1 =>
  rw [hev] at p
  dsimp only at p
  cases hfz : frzDs zs s1 with
  | exc _ _ => rw [hfz] at p; exact False.elim p
  | no => rw [hfz] at p; exact False.elim p
  | ok ws s2 =>
  rw [hfz] at p
  dsimp only at p
  have hlen : d.C.fs.length = ws.length := by
    by_cases z : d.C.fs.length = ws.length
    · exact z
    · rw [decide_eq_false z] at p
      exact False.elim p
  rw [decide_eq_true hlen, if_pos rfl] at p
  -- the arguments, with the default
  have hps : d.ps.length = d.params.args.length := by simp [Clx.ps]
  obtain ⟨us2, vs2, r2, hl2, rp2, hb⟩ : ∃ us2 vs2, Vals vs2 us2 ∧ us2.length + 1 = d.ps.length ∧ Rpas K mg W μ ys vs2 ∧
      ∀ (s' : Shared) (x : Value), K.In s'.heap → BindsTo s' (PySem.W.fnOf "__init__" qual d.params d.body d.scope dV kV doc pm an cdv ct) ⟨x :: us, []⟩ (d.ps.zip (x :: us2)) := by
    unfold fillA at hfill
    split at hfill
    case isFalse => cases hfill
    rename_i hc1
    obtain ⟨hc1, hc2⟩ := hc1
    cases hfill
    have hul : us.length = ds.length := by rw [← r.length, ← rp.length]
    rcases hD with ⟨e, rfl⟩ | ⟨hne, T, o, its, n, rfl, lT, oT, rT⟩
    · have hd0 : d.C.dfl = [] := by
        rw [e] at hdl
        exact List.eq_nil_of_length_eq_zero hdl.symm
      rw [hd0] at hc2 ⊢
      have hdx0 : d.params.defaults = [] := by
        rw [hd0] at o5
        exact List.eq_nil_of_length_eq_zero o5.symm
      simp at hc2
      refine ⟨us, vs, r, by omega, by simpa using rp, fun s' x _ => .of_eq ?_⟩
      have := bind_plain (name := "__init__") (qual := qual) (body := d.body) (scope := d.scope) (kV := kV) (doc := doc) (pm := pm) (an := an) (cdv := cdv) (ct := ct) (as := d.params.args) (us := x :: us) (by simp; omega) o3
      have hp2 : d.params = ⟨[], d.params.args, none, [], [], none, []⟩ := by rw [← hdx0, hdd]; exact hpar
      rw [← hp2] at this
      exact this
    · have h1 : d.C.dfl.length = 1 := by
        rw [o5, hdd]
        have : dvs.length ≠ 0 := fun z => hne (List.eq_nil_of_length_eq_zero z)
        rw [hdl, o5, hdd] at this
        omega
      obtain ⟨y, hy⟩ := List.length_eq_one_iff.mp h1
      obtain ⟨v, hv⟩ := List.length_eq_one_iff.mp (hdl.trans h1)
      subst hv
      rw [hy] at hc2 ⊢
      simp at hc2
      cases rT with
      | @cons _ dv _ itr rd rn =>
      cases rn
      have rv : Rp K mg W y v := by
        have := hdv W
        rw [hy] at this
        simp only [Rps] at this
        obtain ⟨v', r', e, q, _⟩ := this
        cases e
        exact q
      by_cases hfull : ds.length = d.C.np
      · refine ⟨us, vs, r, by omega, ?_, fun s' x X' => BindsTo.of_looks fun M' => ?_⟩
        · simp [hfull]
          exact rp
        · obtain ⟨kk, q1, q2⟩ := bind_full (name := "__init__") (qual := qual) (dx := dx) (body := d.body) (scope := d.scope) (kV := kV) (doc := doc) (pm := pm) (d := dv) (T := T) (an := an) (cdv := cdv) (ct := ct) (as := d.params.args) (us := x :: us) (by simp; omega) (by omega) o3
          rw [← hpar] at q1
          rw [q1]
          exact looks_items X' lT oT (.of_pure q2)
      · refine ⟨us ++ [dv], vs ++ [v], r.append (.cons rd .nil), by simp; omega, ?_, fun s' x X' => BindsTo.of_looks fun M' => ?_⟩
        · have : ds.length + 1 - d.C.np = 0 := by omega
          simp [this]
          have app : ∀ {a : List D} {b : List V}, Rpas K mg W μ a b → Rpas K mg W μ (a ++ [y]) (b ++ [v]) := by
            intro a
            induction a with
            | nil =>
              intro b hb
              have hb' : b = [] := hb
              subst hb'
              exact ⟨v, [], rfl, rv.a, rfl⟩
            | cons z a ih =>
              rintro b ⟨u, r, rfl, q1, q2⟩
              exact ⟨u, r ++ [v], rfl, q1, ih q2⟩
          exact app rp
        · obtain ⟨kk, q1, q2⟩ := bind_one (name := "__init__") (qual := qual) (dx := dx) (body := d.body) (scope := d.scope) (kV := kV) (doc := doc) (pm := pm) (d := dv) (T := T) (an := an) (cdv := cdv) (ct := ct) (as := d.params.args) (us := x :: us) (by simp; omega) o3
          rw [← hpar] at q1
          rw [q1]
          exact looks_items X' lT oT (.of_pure (by simpa [Clx.ps] using q2))
  -- the new instance
  obtain ⟨e2, un2⟩ := env0_made (C := a) e0
  have hn : H s.heap.objs.size = none := e0.hok.fresh (Nat.le_refl _)
  have hn1 : H (s.heap.objs.size + 1) = none := e0.hok.fresh (Nat.le_succ _)
  have nex : s.heap.objs.size ≠ s.heap.objs.size + 1 := Nat.ne_of_lt (Nat.lt_succ_self _)
  have S1 := S.fresh (o := .own (s.heap.objs.size + 1)) hn
  have S2 := S1.push (o := .ins a s.heap.objs.size []) (S1.free (p := s.heap.objs.size + 1) (by rw [upd_ne (Ne.symm nex)]; exact hn1))
  have hf2 : ∀ q ∈ FF, q.1 ≠ s.heap.objs.size + 1 := fun q hq e => by
    have := (S.ff q hq).1
    rw [e, hn1] at this
    cases this
  have KX : K.In s.heap := e0.mod.kin.keeps fun b o e => (e0.bs b o e).1
  have KX2 : K.In ((s.heap.push PySem.W.emptyDict).push (PySem.W.instObj a s.heap.objs.size)) := e2.mod.kin.keeps fun b o e => (e2.bs b o e).1
  refine make_map (f := f) KX M.makes M.init (beq_iff_eq.mp M.fn) (codeAny_mono (LamX.run_ofS (CX := L2.CX P w) (N := d.N) (ps := d.ps) (us := .ref (s.heap.objs.size + 1) :: us2) (vs := .ref (s.heap.objs.size + 1) :: vs2) (Q := fun v H' => v = .non ∧ Q (.ref (s.heap.objs.size + 1)) H') (E := fun _ _ _ => False) lk hcd SC (hr.make a us []).r (e2.make a us []) (hb _ _ KX2) (.cons rfl r2) ?_ fun hr' => ?_) fun res s' hq => ?_)
  · rw [List.length_cons, r2.length]
    exact hl2
  · have hg : RoomG rr ((A.under (.builtin "type.__call__" ⟨.ref a :: us, []⟩)).deeper (envOfC qual d.scope ((s.heap.push PySem.W.emptyDict).push (PySem.W.instObj a s.heap.objs.size)).objs.size f cdv)) := (hr.make a us []).deeper _
    refine ⟨_, pss_ini (Z.ctx (E := fun _ _ _ => False) (by omega) F1 F2 SC hg) o6, ?_⟩
    refine ini_go (env := none :: ys.map some) CO.cl hf2 (by simp [L2.start]) S2 ?_ CO.na (fun _ _ => by simp) o7 (by simpa using o8) ?_
    · refine ⟨?_, fun i y e => ?_⟩
      · have := rp2.length
        have := r2.length
        simp [L2.start]
        omega
      · cases i with
        | zero => simp at e
        | succ i =>
          have e' : ys[i]? = some y := by
            have : (ys.map some)[i]? = some (some y) := by simpa using e
            rw [List.getElem?_map] at this
            obtain ⟨z, hz, e3⟩ := Option.map_eq_some_iff.mp this
            cases e3
            exact hz
          have at_ : ∀ {ds : List D} {vs : List V} {i : Nat} {d : D}, Rpas K mg W μ ds vs → ds[i]? = some d → ∃ v, vs[i]? = some v ∧ Rpa K mg W μ d v := by
            intro ds
            induction ds with
            | nil => intro vs i d _ h; simp at h
            | cons x xs ih =>
              intro vs i d h e
              obtain ⟨v, r, rfl, h1, h2⟩ := h
              cases i with
              | zero =>
                simp at e
                subst e
                exact ⟨v, rfl, h1⟩
              | succ i =>
                obtain ⟨u, h3, h4⟩ := ih h2 (by simpa using e)
                exact ⟨u, by simpa using h3, h4⟩
          obtain ⟨v, hv, rv⟩ := at_ rp2 e'
          refine ⟨v, ?_, rv⟩
          have hi : i < vs2.length := (List.getElem?_eq_some_iff.mp hv).1
          simp only [L2.start, List.map_cons, List.cons_append, List.getElem?_cons_succ]
          rw [List.getElem?_append_left (by simpa using hi), List.getElem?_map, hv]
          rfl
    · have hev' : evEs ⟨G.con, G.isa, G.exs, orcAt G k, G.wf, none⟩ d.C.es (none :: ys.map some) st = .ok zs s1 := hev
      rw [hev']
      have hzl : zs.length = d.C.fs.length := by
        have := frzs_len hfz
        omega
      refine ⟨hzl, fun H' W' μ' vs' S' x' r' => ?_⟩
      obtain ⟨W3, S3, x3, r3⟩ := frzs_ok S' r' hfz
      obtain ⟨fr, hx⟩ := S3.freeT hf2
      have S4 := S3.pop.putF fr hx
      have x4 : Ex2 W μ (W3.put (s.heap.objs.size + 1) (.ins a s.heap.objs.size ([] ++ d.C.fs.zip vs'))) μ' := x'.trans (x3.trans ⟨LeW.put fr.g, [], by simp⟩)
      obtain ⟨S5, x5⟩ := leave_sa (n := st.length) S.len S4 x4
      refine ⟨rfl, p (.ref (s.heap.objs.size + 1)) H' _ _ S5 x5 ?_⟩
      show Rp K mg _ (.obj cn d.C.fs ws) _
      simp only [Rp]
      exact ⟨s.heap.objs.size + 1, a, s.heap.objs.size, vs', rfl, ha, CO, upd_same, hlen, r3.mono (LeW.put fr.g)⟩
  · cases res with
    | error e =>
      obtain ⟨_, _, _, _, _, _, _, _, _, _, _, _, z⟩ := hq
      exact z.elim
    | ok fl =>
      cases fl with
      | next => exact False.elim hq
      | brk => exact False.elim hq
      | cont => exact False.elim hq
      | ret u =>
        obtain ⟨v, H', os, bare, un, hok, rv, ev, q⟩ := hq
        subst ev
        exact ⟨rv, .ref (s.heap.objs.size + 1), H', os, bare, Un.trans un2 un, hok, rfl, q⟩
end
end Ev
end
section
set_option Elab.async false
set_option linter.all false
set_option maxRecDepth 100000
set_option maxHeartbeats 4000003
namespace Ev
open PySem PySem.Spec PyProof.Rows L2
/-! ### checks of the head's part -/
def oexB (K : PySem.W.Frag) (C : Addr) : Bool := match K.lookup C with
  | some ⟨.type t, _, .cls cd, sl⟩ => decide (t = "type") && cd.hasDict && !cd.hasDel && (match cd.mro, sl.toList with
    | .ref C' :: bm, [_, _, _, _, some (.builtin n), _] => decide (C' = C) && decide (n = "ValueError.__new__") && PySem.HandSPX.refsVE bm
    | _, _ => false)
  | _ => false
theorem oexB_ok {K : PySem.W.Frag} {C : Addr} (h : oexB K C = true) : ∃ nm q N bs bm sn sub ab col dd k0 k1 k2 k3 k5, K.lookup C = some (excClassObj nm q C N bs bm true sn sub ab col dd k0 k1 k2 k3 k5 "ValueError.__new__") ∧ PySem.HandSPX.refsVE bm = true := by
  unfold oexB at h
  split at h
  · rename_i t dd cd sl ho
    simp only [Bool.and_eq_true, decide_eq_true_eq, Bool.not_eq_true'] at h
    obtain ⟨⟨⟨rfl, h1⟩, h2⟩, h3⟩ := h
    split at h3
    · rename_i C' bm k0 k1 k2 k3 n k5 hm hs
      simp only [Bool.and_eq_true, decide_eq_true_eq] at h3
      obtain ⟨⟨rfl, rfl⟩, hr⟩ := h3
      obtain ⟨nm, bs, mro, ns, qn, hd, sn, sub, ab, col, del⟩ := cd
      dsimp only at hm h1 h2
      subst hm h1 h2
      have hsl : sl = #[k0, k1, k2, k3, some (.builtin "ValueError.__new__"), k5] := by
        obtain ⟨l⟩ := sl
        simp only at hs
        rw [hs]
      subst hsl
      exact ⟨nm, qn, ns, bs, bm, sn, sub, ab, col, dd, k0, k1, k2, k3, k5, ho, hr⟩
    · cases h3
  · cases h
/-- an own exception's class x with its fields -/
def excB (K : PySem.W.Frag) (x : Str) (fs : List Str) : Bool :=
  oexB K (He.ga K x) && decide (PySem.W.findIn K (.ref (He.ga K x)) "__setattr__" = some (some (.builtin "object.__setattr__"))) && decide (PySem.W.subIn K (.ref (He.ga K x)) (.type "BaseException") = some true) &&
  decide (PySem.W.typeIn K (.ref (He.ga K x)) = some (.type "type")) && PySem.W.keepIn K (.ref (He.ga K x)) && xfB K (He.ga K x) && (fs.all fun f => decide (PySem.W.findIn K (.ref (He.ga K x)) f = some none)) &&
  decide (PySem.W.findIn K (.ref (He.ga K x)) "__init__" = some (some (.ref (He.ma K (He.ga K x) "__init__")))) && decide (PySem.W.typeIn K (.ref (He.ma K (He.ga K x) "__init__")) = some (.type "function")) && decide fs.Nodup && decide (fs.length ≤ 900) && !fs.isEmpty
def basB (K : PySem.W.Frag) (x : Str) : Bool :=
  PySem.W.readsIn K (He.ga K x) (.type "type") && (match PySem.W.findCls K (.ref (He.ga K x)) (.type "type") "__init__" with
    | some (.val v) => decide (v = .builtin "ValueError.__init__")
    | _ => false) && decide (PySem.W.specialIn K (.ref (He.ga K x)) "__getattribute__" = some (some (.builtin "type.__getattribute__")))
theorem basB_ok {K : PySem.W.Frag} {x : Str} (h : basB K x = true) : BasX K (He.ga K x) := by
  unfold basB at h
  simp only [Bool.and_eq_true, decide_eq_true_eq] at h
  obtain ⟨⟨h1, h2⟩, h3⟩ := h
  refine ⟨h1, ?_, h3⟩
  split at h2
  · rename_i v e
    rw [e, of_decide_eq_true h2]
  · cases h2
/-! ### a law's text -/
/-- an own exception: its class, its fields, its __init__'s text -/
structure Xn where
  name : Str
  fs : List Str
  N : List Str
  params : Arguments
  body : List Stmt
  scope : Scope
theorem and3 {a b : Bool} (h : (a && b) = true) : a = true ∧ b = true := Bool.and_eq_true_iff.mp h
/-- a default that is known here: () -/
def dfl0B : List D → Bool
  | [] => true
  | [.tup []] => true
  | _ => false
/-- a tuple of ints that the head's part knows -/
def tupB (K : PySem.W.Frag) (a : Addr) (is : List Int) : Bool := match K.lookup a with
  | some ⟨.type t, _, .seq its _, _⟩ => decide (t = "tuple") && decide (its.size ≤ sizeLine) && He.relAll (is.map V.int) its.toList
  | _ => false
theorem tupB_ok {K : PySem.W.Frag} {a : Addr} {is : List Int} (h : tupB K a is = true) (G : Hp) : SqT K G a (is.map V.int) := by
  unfold tupB at h
  split at h
  · rename_i t dd its n sl e
    simp only [Bool.and_eq_true, decide_eq_true_eq] at h
    obtain ⟨⟨rfl, h1⟩, h2⟩ := h
    exact .inr ⟨_, its, n, e, rfl, rfl, h1, He.relAll_ok h2⟩
  · cases h
/-- a class whose instances are plain -/
def clsB (K : PySem.W.Frag) (C : Addr) : Bool :=
  decide (PySem.W.findIn K (.ref C) "__class__" = some (some (.builtin "object.__class__"))) && decide (PySem.W.specialIn K (.builtin "object.__class__") "__get__" = some (some (.builtin "getset_descriptor.__get__"))) &&
  decide (PySem.W.takesIn K (.builtin "object.__class__") = some true) && decide (PySem.W.mroIn K C (.type "object") = some true) && (tyNs.all fun n => decide (PySem.W.kitOne K (.ref C) (.type n) = some false))
def Clx.dv (e : Clx) : List He.Dv := if e.C.dfl.isEmpty then [] else [.adr (He.dflAt (e.name, some "__init__") 0)]
structure LawD where
  defs : List Dn
  lw : Dn
  excs : List Xn := []
  clss : List Clx := []
  cons : List (Str × List Int) := []
  base : Str := "HedgeError"
  gcd : Bool := false
  lams : List Lam := []
  wf : Nat := 1000
def LawD.gl (L : LawD) : Gl where
  con := fun x => if L.defs.any (fun d => decide (d.name = x)) then some (.fn x) else (L.cons.lookup x).map fun is => .tup (is.map .int)
  isa := fun c t => if (L.clss.any fun e => decide (e.name = c)) && (L.clss.any fun e => decide (e.name = t)) then some (decide (c = t)) else none
  cls := fun c => (L.clss.map fun e => (e.name, e.C)).lookup c
  exs := fun c => (L.excs.map fun e => (e.name, e.fs)).lookup c
  fn := fun f => (L.defs.map fun d => (d.name, d.F)).lookup f
  lam := fun l => L.lams[l]?
  wf := L.wf
def LawD.m0 (L : LawD) : MC where
  N := []
  sc := L.lw.scope
  ts := L.lw.scope
  fns := L.defs.map (·.name) ++ L.clss.map (·.name)
  cns := L.clss.map (·.name)
  gcd := L.gcd
  exn := L.excs.map (·.name)
  lam := fun l => L.lams[l]?
  top := false
def LawD.mL (L : LawD) : MC := { L.m0 with N := L.lw.N, sc := L.lw.scope, ts := L.lw.scope, top := true }
/-- the text is the terms' -/
def LawD.ok0 (L : LawD) : Bool := (L.defs.all fun d => d.okB L.m0) && C8.scC L.lw.N [("script" : Str)] L.lw.scope && plainPar L.lw.params && decide (L.lw.ps = [("script" : Str)]) && decide (L.lw.F.nl = L.lw.N.length) && mtSs L.mL L.lw.F.body L.lw.body && decide (L.lw.name = "law") &&
  (L.excs.all fun e => C8.scC e.N e.N e.scope && plainPar e.params && decide (e.params.args.map (·.arg) = e.N) && decide (e.N.length = e.fs.length + 1) && initB L.base e.N e.scope (e.fs.zipIdx 1) e.body) && decide (L.defs.map (·.name)).Nodup && decide (L.excs.map (·.name)).Nodup
def LawD.okB (L : LawD) : Bool := L.ok0 && (L.clss.all fun e => e.okB L.m0 && dfl0B e.C.dfl)
/-- what is asked of the head -/
def LawD.fa (L : LawD) : List He.Fa := (L.clss.flatMap fun e => He.Fa.glo e.name :: He.Fa.cls e.name :: He.Fa.mkr e.name :: e.C.fs.map fun f => He.Fa.noat e.name f) ++ ((L.cons.map fun p => He.Fa.glo p.1) ++ ((L.defs.map fun d => He.Fa.glo d.name) ++ (L.excs.map fun e => He.Fa.glo e.name) ++ [He.Fa.glo L.base, He.Fa.glo "law"] ++ bNs.map He.Fa.free))
theorem LawD.fa_c {L : LawD} {x : He.Fa} (h : x ∈ L.clss.flatMap fun e => He.Fa.glo e.name :: He.Fa.cls e.name :: He.Fa.mkr e.name :: e.C.fs.map fun f => He.Fa.noat e.name f) : x ∈ L.fa := List.mem_append_left _ h
theorem LawD.fa_k {L : LawD} {x : He.Fa} (h : x ∈ L.cons.map fun p => He.Fa.glo p.1) : x ∈ L.fa := List.mem_append_right _ (List.mem_append_left _ h)
theorem LawD.fa_d {L : LawD} {x : He.Fa} (h : x ∈ (L.defs.map fun d => He.Fa.glo d.name) ++ (L.excs.map fun e => He.Fa.glo e.name) ++ [He.Fa.glo L.base, He.Fa.glo "law"] ++ bNs.map He.Fa.free) : x ∈ L.fa := List.mem_append_right _ (List.mem_append_right _ h)
def LawD.fn (L : LawD) : List He.DefD := (L.defs.map fun d => ⟨(d.name, none), d.fname, d.fname, d.params, d.body, d.scope, [], []⟩) ++ [⟨("law", none), "law", "law", L.lw.params, L.lw.body, L.lw.scope, [], []⟩] ++
  (L.excs.map fun e => ⟨(e.name, some "__init__"), "__init__", e.name ++ ".__init__", e.params, e.body, e.scope, [], []⟩) ++
  L.clss.map fun e => ⟨(e.name, some "__init__"), "__init__", e.name ++ ".__init__", e.params, e.body, e.scope, e.dv, []⟩
def LawD.ex0 (L : LawD) (K : PySem.W.Frag) : Bool := (L.excs.all fun e => excB K e.name e.fs) && (L.excs.isEmpty || basB K L.base) && (!L.gcd || decide (PySem.W.nsIn K mainGlobals "gcd" = some (some (.builtin "math.gcd")))) &&
  L.excs.all fun e => L.excs.all fun e' => decide (PySem.W.exmOne K (.ref (He.ga K e.name)) (.ref (He.ga K e'.name)) = some (decide (e.name = e'.name)))
def LawD.ex1 (L : LawD) (K : PySem.W.Frag) : Bool := (L.clss.all fun e => clsB K (He.ga K e.name) && (e.C.dfl.isEmpty || tupB K (He.dflAt (e.name, some "__init__") 0 K) []) && (L.clss.all fun e' => decide (PySem.W.kitOne K (.ref (He.ga K e.name)) (.ref (He.ga K e'.name)) = some (decide (e.name = e'.name)))) && (("NoneType" :: tyNs).all fun n => decide (PySem.W.kitOne K (.type n) (.ref (He.ga K e.name)) = some false))) &&   (L.cons.all fun p => tupB K (He.ga K p.1) p.2)
def LawD.ex (L : LawD) (K : PySem.W.Frag) : Bool := L.ex0 K && L.ex1 K
theorem look_map {α β : Type} {g : α → Str} {v : α → β} {l : List α} {x : Str} {y : β} (h : (l.map fun d => (g d, v d)).lookup x = some y) : ∃ d ∈ l, g d = x ∧ v d = y := by
  obtain ⟨d, hd, e⟩ := List.mem_map.mp (PySem.mem_of_lookup h)
  cases e
  exact ⟨d, hd, rfl, rfl⟩
theorem plain_eq {p : Arguments} (h : plainPar p = true) (hd : p.defaults = []) : p = ⟨[], p.args, none, [], [], none, []⟩ := by
  cases p with
  | mk a b c d e f g =>
    cases a <;> cases c <;> cases d <;> cases e <;> cases f <;> first | (cases hd; rfl) | cases h
theorem plain_eq' {p : Arguments} (h : plainPar p = true) : p = ⟨[], p.args, none, [], [], none, []⟩ := by
  cases p with
  | mk a b c d e f g =>
    cases a <;> cases c <;> cases d <;> cases e <;> cases f <;> cases g <;> first | rfl | cases h
section
variable {L : LawD} {K : PySem.W.Frag} {h : Heap} {mg : Str → Option Value} {P : Program} {w : World} {base : Heap} {tf : List He.Defn}
theorem exc_ok (ok : L.okB = true) (X : K.In h) (G : h.Ns mainGlobals mg) (c : He.SaysX L.fa L.fn [] tf L.ex w h K) {e : Xn} (he : e ∈ L.excs) : ExcC K mg P w base e.name e.fs := by
  replace ok := (and3 ok).1
  unfold LawD.ok0 at ok
  simp only [Bool.and_eq_true, decide_eq_true_eq] at ok
  obtain ⟨⟨⟨_, o8⟩, _⟩, o10⟩ := ok
  have oe := List.all_eq_true.mp o8 e he
  simp only [Bool.and_eq_true, decide_eq_true_eq] at oe
  obtain ⟨⟨⟨⟨q1, q2⟩, q3⟩, q4⟩, q5⟩ := oe
  have mr := (and3 c.more).1
  unfold LawD.ex0 at mr
  simp only [Bool.and_eq_true, Bool.or_eq_true] at mr
  obtain ⟨⟨⟨m1, m2⟩, _⟩, _⟩ := mr
  have ex := List.all_eq_true.mp m1 e he
  unfold excB at ex
  simp only [Bool.and_eq_true, decide_eq_true_eq, Bool.not_eq_true'] at ex
  obtain ⟨⟨⟨⟨⟨⟨⟨⟨⟨⟨⟨x1, x2⟩, x3⟩, x4⟩, x5⟩, x6⟩, x7⟩, x8⟩, x9⟩, x10⟩, x11⟩, x12⟩ := ex
  have hb : BasX K (He.ga K L.base) := basB_ok (m2.resolve_left fun z => by
    cases hx : L.excs with
    | nil => rw [hx] at he; cases he
    | cons _ _ => rw [hx] at z; cases z)
  have hbm : mg L.base = some (.ref (He.ga K L.base)) := He.glo_ok X G (c.t.d.facts (LawD.fa_d (by simp)))
  have hm : mg e.name = some (.ref (He.ga K e.name)) := He.glo_ok X G (c.t.d.facts (LawD.fa_d (by
    simp only [List.mem_append, List.mem_map]
    exact .inl (.inl (.inr ⟨e, he, rfl⟩)))))
  obtain ⟨fd, FD⟩ := c.t.d.defs (d := ⟨(e.name, some "__init__"), "__init__", e.name ++ ".__init__", e.params, e.body, e.scope, [], []⟩) (by
    unfold LawD.fn
    simp only [List.mem_append, List.mem_map]
    exact .inl (.inr ⟨e, he, rfl⟩))
  have T : OexC K (He.ga K e.name) := ⟨oexB_ok x1, x2, x3, x4, x5⟩
  have nd : e.N.Nodup := (C8.fnScope_by q1).nd
  have hbind : Binds K fd e.N [] := FunD.bindsN FD fun kV doc pm an cdv ct us hl => by
    have := bind_plain (name := "__init__") (qual := e.name ++ ".__init__") (body := e.body) (scope := e.scope) (kV := kV) (doc := doc) (pm := pm) (an := an) (cdv := cdv) (ct := ct) (as := e.params.args) (us := us) (by rw [hl, ← q3]; simp) (by rw [q3]; exact nd)
    rw [q3, ← plain_eq' q2] at this
    exact this
  obtain ⟨oc, od, dV, kV, doc, pm, an, cdv, ct, osl, rfl, lk, hcd, hD, hK⟩ := FD.ex
  refine ⟨He.ga K e.name, _, _, e.N, hm, T, xfB_ok x6, fun f hf => of_decide_eq_true (List.all_eq_true.mp x7 f hf), x8, x9, init_fn lk hcd (C8.fnScope_by q1) T hb hbm q4 ?_ x11 (fun g hg => of_decide_eq_true (List.all_eq_true.mp x7 g hg)) q5, hbind, x10, x11⟩
  intro z
  rw [z] at x12
  cases x12
theorem rps_ints [Gh] {W : Vw} : ∀ is : List Int, Rps K mg W (is.map .int) (is.map V.int)
  | [] => Rps.nil
  | i :: is => Rps.cons (by simp only [Rp]) (rps_ints is)
theorem wld_of [Gh] (ok : L.okB = true) (X : K.In h) (G : h.Ns mainGlobals mg) (c : He.SaysX L.fa L.fn [] tf L.ex w h K) (clf : CloF) : Wld K mg P w base L.gl L.m0 := by
  have okC := (and3 ok).2
  have ok0 := (and3 ok).1
  unfold LawD.ok0 at ok0
  simp only [Bool.and_eq_true, decide_eq_true_eq] at ok0
  obtain ⟨⟨⟨⟨⟨⟨⟨⟨⟨o1, _⟩, _⟩, _⟩, _⟩, _⟩, _⟩, _⟩, _⟩, _⟩ := ok0
  have mr := (and3 c.more).1
  unfold LawD.ex0 at mr
  simp only [Bool.and_eq_true, Bool.or_eq_true] at mr
  obtain ⟨⟨⟨m1, m2⟩, m3⟩, m4⟩ := mr
  have gd : ∀ d ∈ L.defs, mg d.name = some (.ref (He.ga K d.name)) := fun d hd => He.glo_ok X G (c.t.d.facts (LawD.fa_d (by
    simp only [List.mem_append, List.mem_map]
    exact .inl (.inl (.inl ⟨d, hd, rfl⟩)))))
  have ge : ∀ e ∈ L.excs, mg e.name = some (.ref (He.ga K e.name)) := fun e he => He.glo_ok X G (c.t.d.facts (LawD.fa_d (by
    simp only [List.mem_append, List.mem_map]
    exact .inl (.inl (.inr ⟨e, he, rfl⟩)))))
  have fd : ∀ d ∈ L.defs, ∃ f, FunD K d.fname d.fname d.params d.body d.scope [] [] (He.ga K d.name) f := fun d hd => c.t.d.defs (d := ⟨(d.name, none), d.fname, d.fname, d.params, d.body, d.scope, [], []⟩) (by
    unfold LawD.fn
    simp only [List.mem_append, List.mem_map]
    exact .inl (.inl (.inl ⟨d, hd, rfl⟩)))
  obtain ⟨n1, n2⟩ := and3 (and3 c.more).2
  have gc : ∀ e ∈ L.clss, mg e.name = some (.ref (He.ga K e.name)) := fun e he => He.glo_ok X G (c.t.d.facts (LawD.fa_c (List.mem_flatMap.mpr ⟨e, he, List.mem_cons_self⟩)))
  have gm : ∀ e ∈ L.clss, L2.Mk K (He.ga K e.name) (He.ma K (He.ga K e.name) "__init__") := fun e he => He.mkr_ok (c.t.d.facts (LawD.fa_c (List.mem_flatMap.mpr ⟨e, he, List.mem_cons_of_mem _ (List.mem_cons_of_mem _ List.mem_cons_self)⟩)))
  have cx : ∀ e ∈ L.clss, clsB K (He.ga K e.name) = true ∧ (e.C.dfl.isEmpty || tupB K (He.dflAt (e.name, some "__init__") 0 K) []) = true ∧ (L.clss.all fun e' => decide (PySem.W.kitOne K (.ref (He.ga K e.name)) (.ref (He.ga K e'.name)) = some (decide (e.name = e'.name)))) = true ∧ (("NoneType" :: tyNs).all fun n => decide (PySem.W.kitOne K (.type n) (.ref (He.ga K e.name)) = some false)) = true := fun e he => by
    have := List.all_eq_true.mp n1 e he
    simp only [Bool.and_eq_true] at this
    obtain ⟨⟨⟨a, b⟩, c'⟩, d⟩ := this
    exact ⟨a, b, c', d⟩
  constructor
  case con =>
    intro x d hx
    have hx' : (if L.defs.any (fun d => decide (d.name = x)) then some (Ev.D.fn x) else (L.cons.lookup x).map fun is => .tup (is.map .int)) = some d := hx
    split at hx'
    · rename_i ha
      cases hx'
      obtain ⟨d, hd, e⟩ := List.any_eq_true.mp ha
      have e := of_decide_eq_true e
      subst e
      obtain ⟨f, F⟩ := fd d hd
      refine ⟨.ref (He.ga K d.name), .ref (He.ga K d.name), gd d hd, rfl, fun W μ => ?_⟩
      simp only [Rpa, Rp]
      exact ⟨_, rfl, gd d hd, F.kp⟩
    · obtain ⟨is, hl, rfl⟩ := Option.map_eq_some_iff.mp hx'
      have hm := PySem.mem_of_lookup hl
      have gk : mg x = some (.ref (He.ga K x)) := He.glo_ok X G (c.t.d.facts (LawD.fa_k (List.mem_map.mpr ⟨(x, is), hm, rfl⟩)))
      have tb := List.all_eq_true.mp n2 (x, is) hm
      refine ⟨.ref (He.ga K x), .ref (He.ga K x), gk, rfl, fun W μ => ?_⟩
      simp only [Rpa, Rp]
      exact ⟨_, _, rfl, tupB_ok tb _, rps_ints is⟩
  case isa =>
    refine ⟨fun c1 t b C T z hC hT => ?_, fun t T z hT n hn => ?_⟩
    · have z' : (if (L.clss.any fun e => decide (e.name = c1)) && (L.clss.any fun e => decide (e.name = t)) then some (decide (c1 = t)) else none) = some b := z
      split at z'
      · rename_i hh
        cases z'
        obtain ⟨h1, h2⟩ := and3 hh
        obtain ⟨e1, m1', q1⟩ := List.any_eq_true.mp h1
        obtain ⟨e2, m2', q2⟩ := List.any_eq_true.mp h2
        have q1 := of_decide_eq_true q1
        have q2 := of_decide_eq_true q2
        subst q1 q2
        rw [gc e1 m1'] at hC
        rw [gc e2 m2'] at hT
        cases hC
        cases hT
        have := (cx e1 m1').2.2.1
        exact of_decide_eq_true (List.all_eq_true.mp this e2 m2')
      · cases z'
    · have z' : (if (L.clss.any fun e => decide (e.name = t)) && (L.clss.any fun e => decide (e.name = t)) then some (decide (t = t)) else none).isSome = true := z
      split at z'
      · rename_i hh
        obtain ⟨h1, _⟩ := and3 hh
        obtain ⟨e1, m1', q1⟩ := List.any_eq_true.mp h1
        have q1 := of_decide_eq_true q1
        subst q1
        rw [gc e1 m1'] at hT
        cases hT
        exact of_decide_eq_true (List.all_eq_true.mp (cx e1 m1').2.2.2 n hn)
      · cases z'
  case cns =>
    intro cn hc
    obtain ⟨e, he, rfl⟩ := List.mem_map.mp (show cn ∈ L.clss.map (·.name) from hc)
    exact ⟨_, gc e he⟩
  case bn => exact fun b hb => He.free_ok X G (c.t.d.facts (LawD.fa_d (by
    simp only [List.mem_append, List.mem_map]
    exact .inr ⟨b, hb, rfl⟩)))
  case gcd =>
    intro hg
    have hg' : L.gcd = true := hg
    rw [hg'] at m3
    have m3 := of_decide_eq_true (m3.resolve_left (by simp))
    exact PySem.W.mg_of X G m3
  case fns =>
    intro f hf
    rcases List.mem_append.mp (show f ∈ L.defs.map (·.name) ++ L.clss.map (·.name) from hf) with hf | hf
    · obtain ⟨d, hd, rfl⟩ := List.mem_map.mp hf
      obtain ⟨fd, F⟩ := fd d hd
      exact ⟨_, gd d hd, F.kp⟩
    · obtain ⟨e, he, rfl⟩ := List.mem_map.mp hf
      exact ⟨_, gc e he, (gm e he).kp⟩
  case exc =>
    intro cn hc
    obtain ⟨e, he, rfl⟩ := List.mem_map.mp (show cn ∈ L.excs.map (·.name) from hc)
    refine ⟨e.fs, ?_, exc_ok ok X G c he⟩
    replace ok := (and3 ok).1
    unfold LawD.ok0 at ok
    simp only [Bool.and_eq_true, decide_eq_true_eq] at ok
    have nd := ok.2
    have : ∀ {l : List Xn}, (l.map (·.name)).Nodup → e ∈ l → (l.map fun e => (e.name, e.fs)).lookup e.name = some e.fs := by
      intro l
      induction l with
      | nil => intro _ h; cases h
      | cons x l ih =>
        intro n hm
        obtain ⟨n1, n2⟩ := List.nodup_cons.mp n
        rw [List.map_cons, List.lookup_cons]
        rcases List.mem_cons.mp hm with q | hm
        · subst q
          simp
        · have : (e.name == x.name) = false := by
            have : e.name ≠ x.name := fun q => n1 (by show x.name ∈ _; rw [← q]; exact List.mem_map_of_mem hm)
            simpa using this
          rw [this]
          exact ih n2 hm
    exact this nd he
  case exm =>
    intro c1 c2 h1 h2 A B hA hB
    obtain ⟨fs, hfs⟩ := Option.isSome_iff_exists.mp h1
    obtain ⟨e1, he1, rfl, _⟩ := look_map (show (L.excs.map fun e => (e.name, e.fs)).lookup c1 = some fs from hfs)
    obtain ⟨e2, he2, rfl⟩ := List.mem_map.mp (show c2 ∈ L.excs.map (·.name) from h2)
    rw [ge e1 he1] at hA
    rw [ge e2 he2] at hB
    cases hA
    cases hB
    exact of_decide_eq_true (List.all_eq_true.mp (List.all_eq_true.mp m4 e1 he1) e2 he2)
  case clf => exact clf
  case top => rfl
  case cl =>
    intro cn C hc
    obtain ⟨e, he, rfl, rfl⟩ := look_map (show (L.clss.map fun e => (e.name, e.C)).lookup cn = some C from hc)
    obtain ⟨okc, okd⟩ := and3 (List.all_eq_true.mp okC e he)
    refine ⟨e, rfl, okc, fun a ha => ?_⟩
    rw [gc e he] at ha
    cases ha
    obtain ⟨fd, FD⟩ := c.t.d.defs (d := ⟨(e.name, some "__init__"), "__init__", e.name ++ ".__init__", e.params, e.body, e.scope, e.dv, []⟩) (by
      unfold LawD.fn
      simp only [List.mem_append, List.mem_map]
      exact .inr ⟨e, he, rfl⟩)
    refine ⟨_, fd, _, _, gm e he, ?_, FD, ?_, fun W => ?_⟩
    · obtain ⟨h1, _⟩ := cx e he
      unfold clsB at h1
      simp only [Bool.and_eq_true, decide_eq_true_eq, List.all_eq_true] at h1
      obtain ⟨⟨⟨⟨c1, c2⟩, c3⟩, c4⟩, c5⟩ := h1
      exact ⟨He.cls_ok (c.t.d.facts (LawD.fa_c (List.mem_flatMap.mpr ⟨e, he, List.mem_cons_of_mem _ List.mem_cons_self⟩))), fun f hf => He.noat_ok (c.t.d.facts (LawD.fa_c (List.mem_flatMap.mpr ⟨e, he, List.mem_cons_of_mem _ (List.mem_cons_of_mem _ (List.mem_cons_of_mem _ (List.mem_map.mpr ⟨f, hf, rfl⟩)))⟩))), c1, c2, c3, c4, c5⟩
    · show (e.dv.map (He.Dv.v K)).length = _
      rw [List.length_map]
      unfold Clx.dv
      unfold dfl0B at okd
      split at okd
      · rename_i q
        rw [q]
        rfl
      · rename_i q
        rw [q]
        rfl
      · cases okd
    · show Rps K mg W e.C.dfl (e.dv.map (He.Dv.v K))
      have h2 := (cx e he).2.1
      unfold Clx.dv
      unfold dfl0B at okd
      split at okd
      · rename_i q
        rw [q]
        exact Rps.nil
      · rename_i q
        rw [q] at h2 ⊢
        refine Rps.cons ?_ Rps.nil
        simp only [Rp]
        exact ⟨_, [], rfl, tupB_ok (is := []) (by simpa using h2) _, Rps.nil⟩
      · cases okd
  case fn =>
    intro f F hf
    obtain ⟨d, hd, rfl, rfl⟩ := look_map (show (L.defs.map fun d => (d.name, d.F)).lookup f = some F from hf)
    refine ⟨d, rfl, List.all_eq_true.mp o1 d hd, fun a ha => ?_⟩
    rw [gd d hd] at ha
    cases ha
    exact fd d hd
end
end Ev
end
section
set_option Elab.async false
set_option linter.all false
set_option maxRecDepth 100000
set_option maxHeartbeats 1000003
namespace Ev
open PySem PySem.Spec PyProof.Rows L2
theorem cells_apart : ∀ {names : List (Str × NameKind)} {n : Nat} {acc : List (Str × Addr)}, (∀ p ∈ acc, @LT.lt Nat _ p.2 n) → (acc.map (·.2)).Nodup → ((cellsFrom n names acc).map (·.2)).Nodup
  | [], _, _, _, nd => nd
  | (y, kd) :: r, n, acc, hl, nd => by
    unfold cellsFrom
    split
    · refine cells_apart (fun p hp => ?_) ?_
      · rcases List.mem_cons.mp hp with e | hp
        · subst e
          exact Nat.lt_succ_self n
        · exact Nat.lt_succ_of_lt (hl p hp)
      · rw [List.map_cons, List.nodup_cons]
        refine ⟨fun hm => ?_, nd⟩
        obtain ⟨p, hp, e⟩ := List.mem_map.mp hm
        have h1 := hl p hp
        have e' : p.2 = n := e
        rw [e'] at h1
        exact Nat.lt_irrefl _ h1
    · exact cells_apart hl nd
theorem apart_inj : ∀ {l : List (Str × Addr)} {x y : Str} {a : Addr}, (l.map (·.2)).Nodup → (x, a) ∈ l → (y, a) ∈ l → x = y
  | [], _, _, _, _, h, _ => nomatch h
  | p :: l, x, y, a, nd, h1, h2 => by
    obtain ⟨n1, n2⟩ := List.nodup_cons.mp nd
    rcases List.mem_cons.mp h1 with e1 | h3 <;> rcases List.mem_cons.mp h2 with e2 | h4
    · rw [← e1] at e2
      cases e2
      rfl
    · subst e1
      exact absurd (show (x, a).2 ∈ l.map (·.2) from List.mem_map_of_mem (f := (·.2)) h4) n1
    · subst e2
      exact absurd (show (y, a).2 ∈ l.map (·.2) from List.mem_map_of_mem (f := (·.2)) h3) n1
    · exact apart_inj n2 h3 h4
section
variable [Gh] {K : PySem.W.Frag} {mg : Str → Option Value} {P : Program} {w : World} {base : Heap} {G : Gl} {m0 : MC}
/-- all defs, classes and closures, at every depth -/
theorem all_ok (Z : Wld K mg P w base G m0) (CI : ∀ l f o c oc, Gh.P l f o c oc → LamI G m0 l f o c oc) : ∀ k, (∀ f a, mg f = some (.ref a) → FnC K mg P w base (2 * k + 3) a ((orcAt G k).fn f)) ∧ ∀ l, CloC K mg P w base (2 * k + 3) l ((orcAt G k).clo l)
  | 0 => ⟨fun f a _ A outer s H us vs Q E hr e0 r ⟨FF, st, W, μ, ds, S, rp, p⟩ => False.elim p, fun l A outer s H f Q E hr e0 ⟨FF, st, W, μ, S, r, p⟩ => False.elim p⟩
  | k + 1 => by
    obtain ⟨F1, F2⟩ := all_ok Z CI k
    refine ⟨fun f a ha => ?_, fun l => (clo_ok Z CI (by omega) F1 F2 l).mono (by omega)⟩
    cases hf : G.fn f with
    | some F => exact (def_ok Z (by omega) F1 F2 hf ha).mono (by omega)
    | none =>
      cases hc : G.cls f with
      | some C => exact (cls_ok Z (by omega) F1 F2 hc hf ha).mono (by omega)
      | none =>
        rintro A outer s H us vs Q E hr e0 r ⟨FF, st, W, μ, ds, S, rp, p⟩
        simp only [orcAt, hf, hc] at p
        exact False.elim p
end
theorem ctx_top [Gh] {C : Cx'} {m : MC} {X : Cx} {WE : WX} {k : Nat} (c : CtxOk C m X WE k) (t : TopOk { m with top := true } X) : CtxOk C { m with top := true } X WE k :=
  ⟨c.hN, c.nd, c.hsc, c.calm, c.room, c.tk, c.tl, c.con, c.isa, c.cns, c.bn, c.gcd, c.fns, c.fnc, c.clo, c.clf, fun _ => t, c.k2, c.exc, c.exm⟩
/-- the law's run by its terms -/
def LawD.run (L : LawD) (k : Nat) (ns : List Int) : R Fl := evSs ⟨L.gl.con, L.gl.isa, L.gl.exs, orcAt L.gl k, L.gl.wf, none⟩ L.lw.F.body (some (.scr ns) :: List.replicate (L.lw.N.length - 1) none) []
section
variable {L : LawD} {K : PySem.W.Frag} {h : Heap} {mg : Str → Option Value} {P : Program} {w : World} {fa : Addr}
theorem ev_at (ok : L.okB = true) (k : Nat) (hk : Room (2 * k + 4) callerA) (X : K.In h) (G : h.Ns mainGlobals mg) (c : He.SaysX L.fa L.fn [] [("law", none)] L.ex w h K) (hfa : mg "law" = some (.ref fa))
    (ev : ∀ ns : List Int, ns.length ≤ 63 → (∀ z ∈ ns, Builtin.Int.intBits z ≤ 1048576) → ∃ s, L.run k ns = .ok (.rt (.bl true)) s) : EvAt P w K 63 mg fa h := by
  have ok0 := (and3 ok).1
  unfold LawD.ok0 at ok0
  simp only [Bool.and_eq_true, decide_eq_true_eq] at ok0
  obtain ⟨⟨⟨⟨⟨⟨⟨⟨⟨_, q2⟩, q3⟩, q4⟩, q5⟩, q6⟩, q7⟩, _⟩, _⟩, _⟩ := ok0
  have SC := C8.fnScope_by q2
  have hl : mg "law" = some (.ref (He.ga K "law")) := He.glo_ok X G (c.t.d.facts (LawD.fa_d (by simp)))
  rw [hl] at hfa
  cases hfa
  obtain ⟨fd, FD⟩ := c.t.d.defs (d := ⟨("law", none), "law", "law", L.lw.params, L.lw.body, L.lw.scope, [], []⟩) (by
    unfold LawD.fn
    simp)
  obtain ⟨oc, od, dV, kV, doc, pm, an, cdv, ct, osl, rfl, lk, hcd, hD, hK⟩ := FD.ex
  have hdV : dV = .none := by
    rcases hD with ⟨_, h⟩ | ⟨h, _⟩
    · exact h
    · exact absurd rfl h
  subst hdV
  obtain ⟨cc, rfl⟩ := He.codeIn_ref hcd
  have hcc : He.codeOf K ("law", none) = cc := He.codeOf_eq lk rfl
  have m1 : (("law", none) : He.Defn) ∈ [(("law", none) : He.Defn)] := List.mem_cons_self
  have hd := c.hd _ m1
  have hout := c.out _ m1
  have hemp := c.empty _ m1
  refine ⟨(He.cT K ("law", none)).1, (He.cT K ("law", none)).2, hemp, hout, PySem.W.codeHd_of_K X hd, fun base H s1 a ns hlen hbits M TB hT sq e0 => ?_⟩
  have e1 : (He.cT K ("law", none)).1 = cc := hcc
  rw [e1] at TB
  generalize (He.cT K ("law", none)).2 = T at TB hT
  obtain ⟨sE, hrun⟩ := ev ns hlen hbits
  have hb : BindsTo s1 (PySem.W.fnOf "law" "law" L.lw.params L.lw.body L.lw.scope .none kV doc pm an (.ref cc) ct) ⟨[.ref a], []⟩ ([("script" : Str)].zip [.ref a]) := by
    refine .of_eq ?_
    have hps : L.lw.params.args.map (·.arg) = [("script" : Str)] := q4
    have := bind_plain (name := "law") (qual := "law") (body := L.lw.body) (scope := L.lw.scope) (kV := kV) (doc := doc) (pm := pm) (an := an) (cdv := .ref cc) (ct := ct) (as := L.lw.params.args) (us := [.ref a]) (by
      have := congrArg List.length hps
      simpa using this.symm) (by rw [hps]; decide)
    rw [hps, ← plain_eq' q3] at this
    exact this
  let cells : List (Str × Addr) := cellsFrom (s1.heap.objs.size + 1) L.lw.scope.names []
  have cinj : ∀ x y a, cells.lookup x = some a → cells.lookup y = some a → x = y := fun x y a h1 h2 => apart_inj (cells_apart (names := L.lw.scope.names) (n := s1.heap.objs.size + 1) (acc := []) (fun p hp => nomatch hp) List.nodup_nil) (PySem.mem_of_lookup h1) (PySem.mem_of_lookup h2)
  let X0 : Cx := cxOf (L2.CX P w) P w K mg base L.lw.N "law" L.lw.scope (He.ga K "law") (.ref cc) callerA [] s1 H fun _ _ _ => False
  letI gh : Gh := {
    S := fun i => match L.lw.N[i]? with
      | some y => cells.lookup y
      | none => none
    P := fun l f o c' oc => ∃ ps b sc pm ctv, noParB ps = true ∧ lamB L.lw.scope sc = true ∧ mtL L.mL l b sc = true ∧ o = cellO f (PySem.W.kla_obj "<lambda>" (X0.env.qual ++ "<lambda>") ps b sc (cloFrom X0.env.cells sc.names []) pm c' ctv) ∧ oc = LamX.CodeO c' (X0.env.qual ++ "<lambda>") }
  have hS : ∀ i a, Gh.S i = some a → ∃ y, L.lw.N[i]? = some y ∧ cells.lookup y = some a := fun i a hi => by
    have hi' : (match L.lw.N[i]? with
      | some y => cells.lookup y
      | none => none) = some a := hi
    cases e : L.lw.N[i]? with
    | none => rw [e] at hi'; cases hi'
    | some y =>
      rw [e] at hi'
      exact ⟨y, rfl, hi'⟩
  have hSj : ∀ i j a, Gh.S i = some a → Gh.S j = some a → i = j := fun i j a h1 h2 => by
    obtain ⟨y, e1, c1⟩ := hS i a h1
    obtain ⟨z, e2, c2⟩ := hS j a h2
    have := cinj y z a c1 c2
    subst this
    exact nodup_ix SC.nd e1 e2
  have CI : ∀ l f o c' oc, Gh.P l f o c' oc → LamI L.gl L.m0 l f o c' oc := fun l f o c' oc ⟨ps, b, sc, pm, ctv, h1, h2, h3, ho, hoc⟩ => by
    unfold mtL at h3
    cases hL : L.mL.lam l with
    | none => rw [hL] at h3; cases h3
    | some Lm =>
      rw [hL] at h3
      simp only [Bool.and_eq_true, decide_eq_true_eq] at h3
      obtain ⟨⟨k1, k2⟩, k3⟩ := h3
      have h2' := h2
      unfold lamB at h2'
      simp only [Bool.and_eq_true, Bool.not_eq_true', decide_eq_true_eq, List.all_eq_true, Bool.or_eq_true, decide_eq_false_iff_not] at h2'
      obtain ⟨⟨⟨g1, g2⟩, g3⟩, g4⟩ := h2'
      refine ⟨L.lw.N, ps, b, sc, Lm, pm, ctv, cells, _, ⟨hL, h1, g1, g2, g3, fun y hy => (g4 y hy).1, k1, SC.nd, k2, fun y hy hf => ?_⟩, ho, hoc, cinj, hS, hSj⟩
      have := List.all_eq_true.mp k3 y hy
      simp only [Bool.or_eq_true, Bool.not_eq_true', decide_eq_false_iff_not, List.any_eq_true, decide_eq_true_eq] at this
      rcases this with z | ⟨i, hi, e⟩
      · exact absurd hf z
      · exact ⟨i, hi, e⟩
  have clf : CloF := fun l f o c' oc ⟨ps, b, sc, pm, ctv, _, _, _, ho, _⟩ => ⟨_, _, _, _, ho⟩
  have Z : Wld K mg P w base L.gl L.m0 := wld_of ok X G c clf
  obtain ⟨F1, F2⟩ := all_ok Z CI k
  refine LamX.run_ofS (N := L.lw.N) (ps := ["script"]) (us := [.ref a]) (vs := [.ref a]) lk hcd SC hk e0 hb (.cons rfl .nil) rfl fun hr' => ?_
  have hg : RoomG (2 * k + 3) (callerA.deeper (envOfC "law" L.lw.scope s1.heap.objs.size (He.ga K "law") (.ref cc))) := ⟨hr', by
    simp [Around.deeper, Around.under, callerA]⟩
  have CO := Z.ctx (qual := "law") (f := He.ga K "law") (cdv := .ref cc) (A := callerA) (outer := []) (s := s1) (H := H) (E := fun _ _ _ => False) (by omega) F1 F2 SC hg
  have TO : TopOk L.mL X0 := by
    refine ⟨hS, fun i y hi hy => ?_, fun _ => rfl, hSj, fun l f ps b sc pm c' ctv h1 h2 h3 => ⟨ps, b, sc, pm, ctv, h1, h2, h3, rfl, rfl⟩⟩
    obtain ⟨b, hb⟩ := cell_has (n := s1.heap.objs.size + 1) hy
    refine ⟨b, hb, ?_⟩
    show (match L.lw.N[i]? with
      | some y => cells.lookup y
      | none => none) = some b
    have hi' : L.lw.N[i]? = some y := hi
    rw [hi']
    exact hb
  have CL := ctx_top CO TO
  have SO : StmOk L.mL (cxOf (L2.CX P w) P w K mg base L.lw.N "law" L.lw.scope (He.ga K "law") (.ref cc) callerA [] s1 H fun _ _ _ => False) (foT T (X0.env.qual ++ "<lambda>")) := by
    have z := stm_cx (m0 := L.m0) (K := K) (mg := mg) (P := P) (w := w) (base := base) (qual := "law") (f := He.ga K "law") (cdv := .ref cc) (A := callerA) (outer := []) (s := s1) (H := H) (E := fun _ _ _ => False) SC (fo := foT T (X0.env.qual ++ "<lambda>")) foT_mono
    exact ⟨z.kind, z.own, z.ts, z.fm, z.stk, z.fr⟩
  refine ⟨_, sndSs (fo := foT T (X0.env.qual ++ "<lambda>")) CL SO ⟨fun _ => ⟨cc, T, TB, rfl, rfl⟩⟩ L.lw.F.body L.lw.body q6, ?_⟩
  have SA0 : SA K mg [(T, .tbl #[])] H ⟨fun b => if b = T then none else H b⟩ [] [] := by
    refine ⟨fun b u e => ?_, rfl, fun k o e => by simp at e, fun j k o o' b e => by simp at e, fun p hp => ?_⟩
    · have e' : (if b = T then none else H b) = some u := e
      split at e'
      · cases e'
      · exact e'
    · have : p = (T, .tbl #[]) := by simpa using hp
      subst this
      exact ⟨hT, if_pos rfl, fun k o e => by simp at e⟩
  have sq' : SqL K (fun b => if b = T then none else H b) a (ns.map V.int) := by
    have ne : ∀ {u : HO}, H a = some u → (∀ ps, u ≠ .tbl ps) → (if a = T then none else H a) = some u := fun {u} e n => by
      rw [if_neg]
      · exact e
      · intro z
        rw [z, hT] at e
        cases e
        exact n _ rfl
    rcases sq with (e | ⟨o, e⟩) | e
    · exact .inl (.inl (ne e fun _ z => by cases z))
    · exact .inl (.inr ⟨o, ne e fun _ z => by cases z⟩)
    · exact .inr e
  refine ⟨[(T, .tbl #[])], some (.scr ns) :: List.replicate (L.lw.N.length - 1) none, [], ⟨fun b => if b = T then none else H b⟩, [], ⟨#[], rfl, True.intro, fun pos cv hc => by
    have z : codeAmong pos [] = some cv := hc
    simp [codeAmong] at z⟩, SA0, ?_, ?_⟩
  · have z := start_re (K := K) (mg := mg) (W := ⟨fun b => if b = T then none else H b⟩) (μ := []) (ds := [.scr ns]) (vs := [.ref a]) (N := L.lw.N) (nl := L.lw.N.length) rfl ⟨.ref a, [], rfl, (by simp only [Rpa, Rp]; exact ⟨a, rfl, sq'⟩), rfl⟩
    exact z
  · have hr : evSs ⟨L.gl.con, L.gl.isa, L.gl.exs, orcAt L.gl k, L.gl.wf, none⟩ L.lw.F.body (some (.scr ns) :: List.replicate (L.lw.N.length - 1) none) [] = .ok (.rt (.bl true)) sE := hrun
    rw [hr]
    intro FF' σ' H' W' μ' _ _ _ v rv
    exact rv
end
end Ev
end
section
set_option Elab.async false
set_option linter.all false
set_option maxRecDepth 100000
set_option maxHeartbeats 1000003
namespace Ev
open PySem PySem.Spec PyProof.Rows L2
/-! ### the head's part, the C statics' namespace with it -/
def asE (g : Addr → Option Obj) (n : Nat) : List Addr := PySem.cStatics :: He.asD g n
def frE (g : Addr → Option Obj) (n : Nat) : PySem.W.Frag := He.frT g (asE g n)
def obsE (n : Nat) (fa : List He.Fa) (fn : List He.DefD) (tf : List He.Defn) (ex : PySem.W.Frag → Bool) (g : Addr → Option Obj) : He.AlX := (He.obsT fa fn [] (frE g n), ex (frE g n) && He.tabsB g tf (frE g n))
theorem saysE {n : Nat} {fa : List He.Fa} {fn : List He.DefD} {tf : List He.Defn} {ex : PySem.W.Frag → Bool} {w : World} {h : Heap} (e : obsE n fa fn tf ex h.get? = He.valX fn [] w) : He.SaysX fa fn [] tf ex w h (frE h.get? n) := by
  obtain ⟨m1, m2⟩ := Bool.and_eq_true_iff.mp (show (ex (frE h.get? n) && He.tabsB h.get? tf (frE h.get? n)) = true from congrArg Prod.snd e)
  have tab : ∀ p ∈ tf, PySem.W.codeHdIn (frE h.get? n) (He.cT (frE h.get? n) p).1 (He.cT (frE h.get? n) p).2 = true ∧ ∃ o, h.get? (He.cT (frE h.get? n) p).2 = some o ∧ He.emptyTab o = true := fun p hp => by
    obtain ⟨k1, k2⟩ := Bool.and_eq_true_iff.mp (List.all_eq_true.mp m2 p hp)
    refine ⟨k1, ?_⟩
    cases q : h.get? (He.cT (frE h.get? n) p).2 with
    | none => rw [q] at k2; cases k2
    | some o => rw [q] at k2; exact ⟨o, rfl, k2⟩
  refine ⟨congrArg Prod.fst e, m1, fun p hp => (tab p hp).1, fun p hp => ?_, fun p hp => ?_⟩
  · obtain ⟨o, q, z⟩ := (tab p hp).2
    exact He.frT_none q z
  · obtain ⟨o, q, z⟩ := (tab p hp).2
    rw [q, He.emptyTab_eq z]
def hookE (n : Nat) (fa : List He.Fa) (fn : List He.DefD) (tf : List He.Defn) (ex : PySem.W.Frag → Bool) : PySem.W.Hook where
  α := He.AlX
  obs := fun s => obsE n fa fn tf ex s.heap.get?
  val := fun w => He.valX fn [] w
  says := fun w h => ∃ K : PySem.W.Frag, K.In h ∧ He.SaysX fa fn [] tf ex w h K
  of := fun _ _ e => ⟨_, He.frT_in, saysE e⟩
  keeps := fun _ _ _ ⟨K, hK, c⟩ k => ⟨K, PySem.W.Frag.In.keeps hK k, c.t, c.more, c.hd, c.out, fun p hp => k _ _ (c.empty p hp)⟩
theorem obsE_eq {n : Nat} {fa : List He.Fa} {fn : List He.DefD} {tf : List He.Defn} {ex : PySem.W.Frag → Bool} {g : Addr → Option Obj} {s : Shared} (h : ∀ a, g a = s.heap.get? a) : obsE n fa fn tf ex g = (hookE n fa fn tf ex).obs s := by
  rw [show g = s.heap.get? from funext h]
  rfl
end Ev
end
section
set_option linter.all false
set_option maxRecDepth 100000
namespace Ev
open PySem
/-! ### runs of terms -/
def cxK (G : Gl) (k : Nat) : Cx' := ⟨G.con, G.isa, G.exs, orcAt G k, G.wf, none⟩
def env0 (F : Fn) (xs : List D) : En := xs.map some ++ List.replicate (F.nl - xs.length) none
def plainD : D → Bool
  | .mu _ => false
  | .clo _ => false
  | _ => true
theorem leave_plain {d : D} (h : plainD d = true) (n : Nat) (s : Sto) : leave n d s = .ok d (s.take n) := by
  cases d <;> first | rfl | cases h
theorem take_self {s s' : Sto} (h : s'.length = s.length) : s'.take s.length = s' := by
  rw [← h, List.take_length]
theorem call_def {G : Gl} {k : Nat} {f : Str} {F : Fn} {xs : List D} {s : Sto} (hf : G.fn f = some F) (hd : F.dfl = []) (hl : xs.length = F.np) : (orcAt G (k + 1)).fn f xs s = runB (cxK G k) F xs s := by
  have e : fillA F.np F.dfl xs = some xs := by
    unfold fillA
    rw [hd, if_pos ⟨by omega, by simp; omega⟩]
    simp
  simp only [orcAt, hf, e]
  rfl
/-- a call that hands back plain data -/
theorem call_rt {G : Gl} {k : Nat} {f : Str} {F : Fn} {xs : List D} {s s' : Sto} {d : D} (hf : G.fn f = some F) (hd : F.dfl = []) (hl : xs.length = F.np) (hs : s'.length = s.length) (hp : plainD d = true) (hb : evSs (cxK G k) F.body (env0 F xs) s = .ok (.rt d) s') :
    (orcAt G (k + 1)).fn f xs s = .ok d s' := by
  rw [call_def hf hd hl]
  unfold runB
  have hb' : evSs (cxK G k) F.body (xs.map some ++ List.replicate (F.nl - xs.length) none) s = .ok (.rt d) s' := hb
  rw [hb']
  show leave s.length d s' = _
  rw [leave_plain hp, take_self hs]
/-- a call that raises -/
theorem call_exc {G : Gl} {k : Nat} {f : Str} {F : Fn} {xs : List D} {s s' : Sto} {x : Ex} (hf : G.fn f = some F) (hd : F.dfl = []) (hl : xs.length = F.np) (hs : s'.length = s.length) (hb : evSs (cxK G k) F.body (env0 F xs) s = .exc x s') :
    (orcAt G (k + 1)).fn f xs s = .exc x s' := by
  rw [call_def hf hd hl]
  unfold runB
  have hb' : evSs (cxK G k) F.body (xs.map some ++ List.replicate (F.nl - xs.length) none) s = .exc x s' := hb
  rw [hb']
  show R.exc x (s'.take s.length) = _
  rw [take_self hs]
/-! ### steps -/
section
variable {X : Cx'} {e e' : En} {s s1 s2 s3 : Sto} {a b c : E} {es : Es} {r : Ss} {d x y : D} {xs : List D} {RF : R Fl} {RD : R D} {RB : R Bool}
theorem r_cons {a : S} (h1 : evS X a e s = .ok (.nx e') s1) (h2 : evSs X r e' s1 = RF) : evSs X (.cons a r) e s = RF := by
  show bnd (evS X a e) _ s = _
  rw [bnd_ok h1]
  exact h2
theorem r_last {a : S} {d : D} (h1 : evS X a e s = .ok (.rt d) s1) : evSs X (.cons a r) e s = .ok (.rt d) s1 := by
  show bnd (evS X a e) _ s = _
  rw [bnd_ok h1]
  rfl
theorem r_stop {a : S} {x : Ex} (h1 : evS X a e s = .exc x s1) : evSs X (.cons a r) e s = .exc x s1 := by
  show bnd (evS X a e) _ s = _
  unfold bnd
  rw [h1]
theorem r_brk {a : S} (h1 : evS X a e s = .ok (.bk e') s1) : evSs X (.cons a r) e s = .ok (.bk e') s1 := by
  show bnd (evS X a e) _ s = _
  rw [bnd_ok h1]
  rfl
theorem r_ite {t : T} {u v : Ss} {q : Bool} (h1 : evT X t e s = .ok q s1) (h2 : cond q (evSs X u e s1) (evSs X v e s1) = RF) : evS X (.ite t u v) e s = RF := by
  show bnd (evT X t e) _ s = _
  rw [bnd_ok h1]
  cases q <;> exact h2
/-- an if that goes by -/
theorem r_by {t : T} {u : Ss} (h1 : evT X t e s = .ok false s1) (h2 : evSs X r e s1 = RF) : evSs X (.cons (.ite t u .nil) r) e s = RF := r_cons (r_ite h1 rfl) h2
/-- an if that ends the run -/
theorem r_in {t : T} {u v : Ss} (h1 : evT X t e s = .ok true s1) (h2 : evSs X u e s1 = .ok (.rt d) s2) : evSs X (.cons (.ite t u v) r) e s = .ok (.rt d) s2 := r_last (r_ite h1 h2)
theorem r_rtn (h1 : evE X a e s = .ok d s1) : evSs X (.cons (.rtn a) r) e s = .ok (.rt d) s1 := by
  show bnd (bnd (evE X a e) _) _ s = _
  rw [bnd_bnd, bnd_ok h1]
  rfl
theorem r_rtnX {x : Ex} (h1 : evE X a e s = .exc x s1) : evSs X (.cons (.rtn a) r) e s = .exc x s1 := by
  show bnd (bnd (evE X a e) _) _ s = _
  unfold bnd
  rw [h1]
theorem r_set {i : Nat} (h1 : evE X a e s = .ok d s1) (h2 : evSs X r (setE e i d) s1 = RF) : evSs X (.cons (.asg (.name i) a) r) e s = RF := by
  show bnd (bnd (evE X a e) _) _ s = _
  rw [bnd_bnd, bnd_ok h1]
  exact h2
theorem r_asg {t : Tg} (h1 : evE X a e s = .ok d s1) (h2 : asgA t (evE X) d e s1 = .ok e' s2) (h3 : evSs X r e' s2 = RF) : evSs X (.cons (.asg t a) r) e s = RF := by
  show bnd (bnd (evE X a e) _) _ s = _
  rw [bnd_bnd, bnd_ok h1, bnd_bnd, bnd_ok h2]
  exact h3
theorem r_par {is : List Nat} (h1 : evEs X es e s = .ok xs s1) (h2 : setEs e is xs = some e') (h3 : evSs X r e' s1 = RF) : evSs X (.cons (.par is es) r) e s = RF := by
  show bnd (bnd (evEs X es e) _) _ s = _
  rw [bnd_bnd, bnd_ok h1]
  show bnd (match setEs e is xs with | some e' => ret (Fl.nx e') | none => no) _ s1 = _
  rw [h2]
  exact h3
theorem r_exp (h1 : evE X a e s = .ok d s1) (h2 : evSs X r e s1 = RF) : evSs X (.cons (.exp a) r) e s = RF := by
  show bnd (bnd (evE X a e) _) _ s = _
  rw [bnd_bnd, bnd_ok h1]
  exact h2
theorem r_rse {cn : Str} {fs : List Str} {ys : List D} (h1 : evEs X es e s = .ok xs s1) (h2 : frzDs xs s1 = .ok ys s2) (h3 : X.exs cn = some fs) (h4 : fs.length = ys.length) : evSs X (.cons (.rse cn es) r) e s = .exc ⟨cn, fs, ys⟩ s2 := by
  show bnd (bnd (evEs X es e) _) _ s = _
  rw [bnd_bnd, bnd_ok h1, bnd_bnd, bnd_ok h2]
  show bnd (match X.exs cn with | some fs => if decide (fs.length = ys.length) then thr ⟨cn, fs, ys⟩ else no | none => no) _ s2 = _
  rw [h3]
  simp only [h4, decide_true, if_true]
  rfl
/-- values -/
theorem r_es1 (h1 : evE X a e s = .ok d s1) : evEs X (.cons a .nil) e s = .ok [d] s1 := by
  show bnd (evE X a e) _ s = _
  rw [bnd_ok h1]
  rfl
theorem r_esc (h1 : evE X a e s = .ok d s1) (h2 : evEs X es e s1 = .ok xs s2) : evEs X (.cons a es) e s = .ok (d :: xs) s2 := by
  show bnd (evE X a e) _ s = _
  rw [bnd_ok h1, bnd_ok h2]
  rfl
theorem r_esX {x : Ex} (h1 : evE X a e s = .exc x s1) : evEs X (.cons a es) e s = .exc x s1 := by
  show bnd (evE X a e) _ s = _
  unfold bnd
  rw [h1]
theorem r_esXc {x : Ex} (h1 : evE X a e s = .ok d s1) (h2 : evEs X es e s1 = .exc x s2) : evEs X (.cons a es) e s = .exc x s2 := by
  show bnd (evE X a e) _ s = _
  rw [bnd_ok h1]
  unfold bnd
  rw [h2]
theorem r_call {f : Str} (h1 : evEs X es e s = .ok xs s1) (h2 : X.orc.fn f xs s1 = RD) : evE X (.call f es) e s = RD := by
  show bnd (evEs X es e) _ s = _
  rw [bnd_ok h1]
  exact h2
theorem r_callX {f : Str} {x : Ex} (h1 : evEs X es e s = .exc x s1) : evE X (.call f es) e s = .exc x s1 := by
  show bnd (evEs X es e) _ s = _
  unfold bnd
  rw [h1]
theorem r_parX {is : List Nat} {x : Ex} (h1 : evEs X es e s = .exc x s1) : evSs X (.cons (.par is es) r) e s = .exc x s1 := by
  show bnd (bnd (evEs X es e) _) _ s = _
  unfold bnd
  rw [h1]
theorem r_bi {f : Bf} (h1 : evEs X es e s = .ok xs s1) (h2 : biD f xs s1 = RD) : evE X (.bi f es) e s = RD := by
  show bnd (evEs X es e) _ s = _
  rw [bnd_ok h1]
  exact h2
theorem r_bin {op : Operator} (h1 : evE X a e s = .ok x s1) (h2 : evE X b e s1 = .ok y s2) (h3 : binD op x y s2 = RD) : evE X (.bin op a b) e s = RD := by
  show bnd (evE X a e) _ s = _
  rw [bnd_ok h1, bnd_ok h2]
  exact h3
theorem r_neg {i : Int} (h1 : evE X a e s = .ok (.int i) s1) : evE X (.neg a) e s = .ok (.int (-i)) s1 := by
  show bnd (evE X a e) _ s = _
  rw [bnd_ok h1]
  rfl
theorem r_cmp {op : CmpOp} {q : Bool} (h1 : evE X a e s = .ok x s1) (h2 : evE X b e s1 = .ok y s2) (h3 : cmpD op x y s2 = .ok q s3) : evE X (.cmp op a b) e s = .ok (.bl q) s3 := by
  show bnd (evE X a e) _ s = _
  rw [bnd_ok h1, bnd_ok h2, bnd_ok h3]
  rfl
theorem r_and {q : Bool} (h1 : evE X a e s = .ok (.bl q) s1) (h2 : cond q (evE X b e s1) (.ok (.bl false) s1) = RD) : evE X (.andv a b) e s = RD := by
  show bnd (blM (evE X a e)) _ s = _
  unfold blM
  rw [bnd_bnd, bnd_ok h1]
  cases q <;> exact h2
theorem r_or {q : Bool} (h1 : evE X a e s = .ok (.bl q) s1) (h2 : cond q (.ok (.bl true) s1) (evE X b e s1) = RD) : evE X (.orv a b) e s = RD := by
  show bnd (blM (evE X a e)) _ s = _
  unfold blM
  rw [bnd_bnd, bnd_ok h1]
  cases q <;> exact h2
theorem r_ife {t : T} {q : Bool} (h1 : evT X t e s = .ok q s1) (h2 : cond q (evE X a e s1) (evE X b e s1) = RD) : evE X (.ife t a b) e s = RD := by
  show bnd (evT X t e) _ s = _
  rw [bnd_ok h1]
  cases q <;> exact h2
theorem r_ix (h1 : evE X a e s = .ok x s1) (h2 : evE X b e s1 = .ok y s2) (h3 : getD x y s2 = RD) : evE X (.ix a b) e s = RD := by
  show bnd (evE X a e) _ s = _
  rw [bnd_ok h1, bnd_ok h2]
  exact h3
theorem r_tup {ys : List D} (h1 : evEs X es e s = .ok xs s1) (h2 : frzDs xs s1 = .ok ys s2) : evE X (.tup es) e s = .ok (.tup ys) s2 := by
  show bnd (evEs X es e) _ s = _
  rw [bnd_ok h1, bnd_ok h2]
  rfl
theorem r_lst {m : Bool} {ys : List D} (h1 : evEs X es e s = .ok xs s1) (h2 : frzDs xs s1 = .ok ys s2) (h3 : alloc m (.lst ys) s2 = RD) : evE X (.lst m es) e s = RD := by
  show bnd (evEs X es e) _ s = _
  rw [bnd_ok h1, bnd_ok h2]
  exact h3
theorem r_not {q : Bool} (h1 : evE X a e s = .ok x s1) (h2 : truD x s1 = some q) : evE X (.notv a) e s = .ok (.bl (!q)) s1 := by
  show bnd (evE X a e) _ s = _
  rw [bnd_ok h1]
  show (match truD x s1 with | some r => R.ok (D.bl (!r)) s1 | none => R.no) = _
  rw [h2]
/-- tests -/
theorem tt_val {q : Bool} (h1 : evE X a e s = .ok x s1) (h2 : truD x s1 = some q) : evT X (.val a) e s = .ok q s1 := by
  show bnd (evE X a e) _ s = _
  rw [bnd_ok h1]
  show (match truD x s1 with | some r => R.ok r s1 | none => R.no) = _
  rw [h2]
theorem tt_cmp {op : CmpOp} {q : Bool} (h1 : evE X a e s = .ok x s1) (h2 : evE X b e s1 = .ok y s2) (h3 : cmpD op x y s2 = .ok q s3) : evT X (.cmp op a b) e s = .ok q s3 := by
  show bnd (evE X a e) _ s = _
  rw [bnd_ok h1, bnd_ok h2]
  exact h3
theorem tt_and {t u : T} {q : Bool} (h1 : evT X t e s = .ok q s1) (h2 : cond q (evT X u e s1) (.ok false s1) = RB) : evT X (.and t u) e s = RB := by
  show bnd (evT X t e) _ s = _
  rw [bnd_ok h1]
  cases q <;> exact h2
theorem tt_or {t u : T} {q : Bool} (h1 : evT X t e s = .ok q s1) (h2 : cond q (.ok true s1) (evT X u e s1) = RB) : evT X (.or t u) e s = RB := by
  show bnd (evT X t e) _ s = _
  rw [bnd_ok h1]
  cases q <;> exact h2
theorem tt_not {t : T} {q : Bool} (h1 : evT X t e s = .ok q s1) : evT X (.not t) e s = .ok (!q) s1 := by
  show bnd (evT X t e) _ s = _
  rw [bnd_ok h1]
  rfl
end
/-! ### loops -/
section
variable {X : Cx'} {s : Sto}
/-- every turn goes on -/
theorem loopF_all {f : D → En → M Fl} : ∀ {xs : List D} {I : Nat → En → Sto → Prop} {i : Nat} {e : En} {s : Sto}, (∀ j x e s, xs[j]? = some x → I (i + j) e s → ∃ e' s', f x e s = .ok (.nx e') s' ∧ I (i + j + 1) e' s') → I i e s → ∃ e' s', loopF f xs e s = .ok (.nx e') s' ∧ I (i + xs.length) e' s'
  | [], I, i, e, s, _, h => ⟨e, s, rfl, h⟩
  | x :: xs, I, i, e, s, hs, h => by
    obtain ⟨e1, s1, h1, h2⟩ := hs 0 x e s rfl h
    obtain ⟨e2, s2, h3, h4⟩ := loopF_all (xs := xs) (I := I) (i := i + 1) (fun j y e s hj hi => by
      have := hs (j + 1) y e s (by simpa using hj) (by rw [← Nat.add_assoc, Nat.add_right_comm]; exact hi)
      rw [show i + 1 + j + 1 = i + (j + 1) + 1 by omega]
      exact this) h2
    refine ⟨e2, s2, ?_, by rw [List.length_cons, show i + (xs.length + 1) = i + 1 + xs.length by omega]; exact h4⟩
    show bnd (f x e) _ s = _
    rw [bnd_ok h1]
    exact h3
theorem loopF_nx {f : D → En → M Fl} {x : D} {xs : List D} {e e' : En} {s s' : Sto} {RF : R Fl} (h1 : f x e s = .ok (.nx e') s') (h2 : loopF f xs e' s' = RF) : loopF f (x :: xs) e s = RF := by
  show bnd (f x e) _ s = _
  rw [bnd_ok h1]
  exact h2
theorem loopF_bk {f : D → En → M Fl} {x : D} {xs : List D} {e e' : En} {s s' : Sto} (h1 : f x e s = .ok (.bk e') s') : loopF f (x :: xs) e s = .ok (.nx e') s' := by
  show bnd (f x e) _ s = _
  rw [bnd_ok h1]
  rfl
/-- one turn of a for loop's text -/
def forT (X : Cx') (t : Tg) (b : Ss) (x : D) (e : En) : M Fl := match asgP t x e with
  | some e' => evSs X b e'
  | none => no
theorem r_for {t : Tg} {it : It} {b r : Ss} {e e' : En} {s s1 s2 : Sto} {xs : List D} {RF : R Fl} (h1 : evIt X it e s = .ok xs s1) (h2 : loopF (forT X t b) xs e s1 = .ok (.nx e') s2) (h3 : evSs X r e' s2 = RF) : evSs X (.cons (.for_ t it b) r) e s = RF := by
  show bnd (bnd (evIt X it e) (fun xs => loopF (forT X t b) xs e)) _ s = _
  rw [bnd_bnd, bnd_ok h1, bnd_ok h2]
  exact h3
end
end Ev
end
section
set_option linter.all false
set_option maxRecDepth 100000
namespace Ev
open PySem
/-! ### runs told from their ends -/
def Wp {α : Type} (r : R α) (Q : α → Sto → Prop) : Prop := ∃ a s, r = .ok a s ∧ Q a s
section
variable {α β : Type} {Q : α → Sto → Prop} {s s1 s2 : Sto}
theorem w_ok {a : α} (h : Q a s) : Wp (.ok a s) Q := ⟨a, s, rfl, h⟩
theorem w_rfl {r : R α} {a : α} (h : r = .ok a s) (q : Q a s) : Wp r Q := ⟨a, s, h, q⟩
theorem w_eq {r r' : R α} (h : r = r') (q : Wp r' Q) : Wp r Q := h ▸ q
theorem w_mono {r : R α} {P : α → Sto → Prop} (h : Wp r P) (q : ∀ a s, P a s → Q a s) : Wp r Q := by
  obtain ⟨a, s, e, p⟩ := h
  exact ⟨a, s, e, q a s p⟩
theorem w_bnd {m : M β} {f : β → M α} (h : Wp (m s) fun a s' => Wp (f a s') Q) : Wp (bnd m f s) Q := by
  obtain ⟨a, s', e, h⟩ := h
  rw [bnd_ok e]
  exact h
end
/-- what a statement's end leaves to the rest -/
def KK (X : Cx') (r : Ss) (Q : Fl → Sto → Prop) : Fl → Sto → Prop
  | .nx e, s => Wp (evSs X r e s) Q
  | f, s => Q f s
/-- one turn of a comprehension -/
def compT (X : Cx') (own : List (Str × Nat)) (tg : Tg) (cs : Ts) (elt : E) (e : En) (x : D) : M (Option D) := match asgP tg x (own.foldl (fun e p => e.set p.2 none) e) with
  | some e' => bnd (evTs X cs e') fun r => (match r with
    | true => bnd (evE X elt e') fun d => bnd (frzD d) fun d => ret (some d)
    | false => ret none)
  | none => no
/-- a call's end -/
def Ret (n : Nat) (Q : D → Sto → Prop) : Fl → Sto → Prop
  | .rt d, s => Wp (leave n d s) Q
  | .nx _, s => Q .non (s.take n)
  | _, _ => False
section
variable {X : Cx'} {e e' : En} {s s' s1 s2 s3 : Sto} {a b c : E} {es : Es} {r : Ss} {d x y : D} {xs : List D} {QF : Fl → Sto → Prop} {QD : D → Sto → Prop} {QB : Bool → Sto → Prop} {QL : List D → Sto → Prop}
theorem w_nil (h : QF (.nx e) s) : Wp (evSs X .nil e s) QF := w_ok h
theorem w_cons {a : S} (h : Wp (evS X a e s) (KK X r QF)) : Wp (evSs X (.cons a r) e s) QF := by
  refine w_bnd (w_mono h ?_)
  intro f s1 h
  cases f with
  | nx e' => exact h
  | rt d => exact w_ok h
  | bk e => exact w_ok h
  | ct e => exact w_ok h
theorem w_set {i : Nat} (h : Wp (evE X a e s) fun d s1 => Wp (evSs X r (setE e i d) s1) QF) : Wp (evSs X (.cons (.asg (.name i) a) r) e s) QF := by
  refine w_cons (w_bnd (w_mono h ?_))
  intro d s1 h
  exact w_ok h
theorem w_asg {t : Tg} (h : Wp (evE X a e s) fun d s1 => Wp (asgA t (evE X) d e s1) fun e' s2 => Wp (evSs X r e' s2) QF) : Wp (evSs X (.cons (.asg t a) r) e s) QF := by
  refine w_cons (w_bnd (w_mono h ?_))
  intro d s1 h
  refine w_bnd (w_mono h ?_)
  intro e' s2 h
  exact w_ok h
theorem w_par {is : List Nat} (h : Wp (evEs X es e s) fun xs s1 => ∃ e', setEs e is xs = some e' ∧ Wp (evSs X r e' s1) QF) : Wp (evSs X (.cons (.par is es) r) e s) QF := by
  refine w_cons (w_bnd (w_mono h ?_))
  rintro xs s1 ⟨e', h1, h2⟩
  show Wp ((match setEs e is xs with | some e' => ret (Fl.nx e') | none => no) s1) _
  rw [h1]
  exact w_ok h2
theorem w_exp (h : Wp (evE X a e s) fun _ s1 => Wp (evSs X r e s1) QF) : Wp (evSs X (.cons (.exp a) r) e s) QF := by
  refine w_cons (w_bnd (w_mono h ?_))
  intro d s1 h
  exact w_ok h
theorem w_rtn (h : Wp (evE X a e s) fun d s1 => QF (.rt d) s1) : Wp (evSs X (.cons (.rtn a) r) e s) QF := by
  refine w_cons (w_bnd (w_mono h ?_))
  intro d s1 h
  exact w_ok h
theorem w_ite {t : T} {u v : Ss} (h : Wp (evT X t e s) fun q s1 => (q = true → Wp (evSs X u e s1) (KK X r QF)) ∧ (q = false → Wp (evSs X v e s1) (KK X r QF))) : Wp (evSs X (.cons (.ite t u v) r) e s) QF := by
  refine w_cons (w_bnd (w_mono h ?_))
  rintro q s1 ⟨h1, h2⟩
  cases q with
  | true => exact h1 rfl
  | false => exact h2 rfl
/-- an if that is known -/
theorem w_itk {t : T} {u v : Ss} {q : Bool} (h : evT X t e s = .ok q s1) (h2 : Wp (cond q (evSs X u e s1) (evSs X v e s1)) (KK X r QF)) : Wp (evSs X (.cons (.ite t u v) r) e s) QF := by
  refine w_ite (w_rfl h ⟨?_, ?_⟩)
  · rintro rfl; exact h2
  · rintro rfl; exact h2
theorem w_by {t : T} {u : Ss} (h : evT X t e s = .ok false s1) (h2 : Wp (evSs X r e s1) QF) : Wp (evSs X (.cons (.ite t u .nil) r) e s) QF := w_itk h (w_nil (X := X) (QF := KK X r QF) h2)
theorem w_for {t : Tg} {it : It} {b : Ss} (h : Wp (evIt X it e s) fun xs s1 => Wp (loopF (forT X t b) xs e s1) (KK X r QF)) : Wp (evSs X (.cons (.for_ t it b) r) e s) QF := by
  refine w_cons (w_bnd (w_mono h ?_))
  intro xs s1 h
  exact h
theorem w_kk {h : Wp (evSs X r e s) QF} : KK X r QF (.nx e) s := h
/-- values -/
theorem w_esn (h : QL [] s) : Wp (evEs X .nil e s) QL := w_ok h
theorem w_esc (h : Wp (evE X a e s) fun x s1 => Wp (evEs X es e s1) fun xs s2 => QL (x :: xs) s2) : Wp (evEs X (.cons a es) e s) QL := by
  refine w_bnd (w_mono h ?_)
  intro x s1 h
  refine w_bnd (w_mono h ?_)
  intro xs s2 h
  exact w_ok h
theorem w_es1 (h : Wp (evE X a e s) fun x s1 => QL [x] s1) : Wp (evEs X (.cons a .nil) e s) QL := w_esc (w_mono h fun _ _ q => w_esn q)
theorem w_call {f : Str} (h : Wp (evEs X es e s) fun xs s1 => Wp (X.orc.fn f xs s1) QD) : Wp (evE X (.call f es) e s) QD := w_bnd h
theorem w_mk {f : Str} (h : Wp (evEs X es e s) fun xs s1 => Wp (X.orc.fn f xs s1) QD) : Wp (evE X (.mk f es) e s) QD := w_bnd h
theorem w_bi {f : Bf} (h : Wp (evEs X es e s) fun xs s1 => Wp (biD f xs s1) QD) : Wp (evE X (.bi f es) e s) QD := w_bnd h
theorem w_mkb {f : Bm} {m : Bool} (h : Wp (evEs X es e s) fun xs s1 => Wp (mkD f m xs s1) QD) : Wp (evE X (.mkb f m es) e s) QD := w_bnd h
theorem w_bin {op : Operator} (h : Wp (evE X a e s) fun x s1 => Wp (evE X b e s1) fun y s2 => Wp (binD op x y s2) QD) : Wp (evE X (.bin op a b) e s) QD := by
  refine w_bnd (w_mono h ?_)
  intro x s1 h
  exact w_bnd h
theorem w_cmp {op : CmpOp} (h : Wp (evE X a e s) fun x s1 => Wp (evE X b e s1) fun y s2 => Wp (cmpD op x y s2) fun q s3 => QD (.bl q) s3) : Wp (evE X (.cmp op a b) e s) QD := by
  refine w_bnd (w_mono h ?_)
  intro x s1 h
  refine w_bnd (w_mono h ?_)
  intro y s2 h
  refine w_bnd (w_mono h ?_)
  intro q s3 h
  exact w_ok h
theorem w_ix (h : Wp (evE X a e s) fun x s1 => Wp (evE X b e s1) fun y s2 => Wp (getD x y s2) QD) : Wp (evE X (.ix a b) e s) QD := by
  refine w_bnd (w_mono h ?_)
  intro x s1 h
  exact w_bnd h
theorem w_fld {f : Str} (h : Wp (evE X a e s) fun x s1 => Wp (fldD x f s1) QD) : Wp (evE X (.fld a f) e s) QD := w_bnd h
theorem w_tup (h : Wp (evEs X es e s) fun xs s1 => Wp (frzDs xs s1) fun ys s2 => QD (.tup ys) s2) : Wp (evE X (.tup es) e s) QD := by
  refine w_bnd (w_mono h ?_)
  intro x s1 h
  refine w_bnd (w_mono h ?_)
  intro y s2 h
  exact w_ok h
theorem w_lst {m : Bool} (h : Wp (evEs X es e s) fun xs s1 => Wp (frzDs xs s1) fun ys s2 => Wp (alloc m (.lst ys) s2) QD) : Wp (evE X (.lst m es) e s) QD := by
  refine w_bnd (w_mono h ?_)
  intro x s1 h
  exact w_bnd h
theorem w_dct {m : Bool} {ks : List Ky} (h : Wp (evEs X es e s) fun xs s1 => Wp (frzDs xs s1) fun ys s2 => (decide (ks.length = ys.length) && decide ks.Nodup) = true ∧ Wp (alloc m (.dct ks ys) s2) QD) : Wp (evE X (.dct m ks es) e s) QD := by
  refine w_bnd (w_mono h ?_)
  intro x s1 h
  refine w_bnd (w_mono h ?_)
  rintro y s2 ⟨h1, h2⟩
  show Wp ((if decide (ks.length = y.length) && decide ks.Nodup then alloc m (.dct ks y) else no) s2) QD
  rw [h1]
  exact h2
theorem r_mk {f : Str} {RD : R D} (h1 : evEs X es e s = .ok xs s1) (h2 : X.orc.fn f xs s1 = RD) : evE X (.mk f es) e s = RD := by
  show bnd (evEs X es e) _ s = _
  rw [bnd_ok h1]
  exact h2
theorem r_whl {t : T} {b : Ss} {RF : R Fl} (h1 : loopW (evT X t) (evSs X b) X.wf e s = .ok (.nx e') s1) (h2 : evSs X r e' s1 = RF) : evSs X (.cons (.whl t b) r) e s = RF := by
  show bnd (loopW (evT X t) (evSs X b) X.wf e) _ s = _
  rw [bnd_ok h1]
  exact h2
theorem r_met {f : Me} {RD : R D} (h1 : evE X a e s = .ok x s1) (h2 : metB f (thD x s1) = true) (h3 : evEs X es e s1 = .ok xs s2) (h4 : metD x f xs s2 = RD) : evE X (.met a f es) e s = RD := by
  show bnd (evE X a e) _ s = _
  rw [bnd_ok h1]
  show (if metB f (thD x s1) then _ else _) = _
  rw [if_pos h2]
  show bnd (evEs X es e) _ s1 = _
  rw [bnd_ok h3]
  exact h4
theorem loopW_end {t : En → M Bool} {f : En → M Fl} {n : Nat} (h : t e s = .ok false s1) : loopW t f (n + 1) e s = .ok (.nx e) s1 := by
  show bnd (t e) _ s = _
  rw [bnd_ok h]
  rfl
theorem loopW_go {t : En → M Bool} {f : En → M Fl} {n : Nat} {RF : R Fl} (h : t e s = .ok true s1) (h2 : f e s1 = .ok (.nx e') s2) (h3 : loopW t f n e' s2 = RF) : loopW t f (n + 1) e s = RF := by
  show bnd (t e) _ s = _
  rw [bnd_ok h]
  show bnd (f e) _ s1 = _
  rw [bnd_ok h2]
  exact h3
theorem r_isi {ts : List Kd} {q : Bool} (h1 : evE X a e s = .ok x s1) (h2 : isiAny X.isa (thD x s1) ts = some q) : evE X (.isi a ts) e s = .ok (.bl q) s1 := by
  show bnd (evE X a e) _ s = _
  rw [bnd_ok h1]
  show opD ((isiAny X.isa (thD x s1) ts).map .bl) s1 = _
  rw [h2]
  rfl
theorem r_callC {f : Str} {is : List Nat} {ys ys' : List D} {q : Bool} (h1 : evEs X es e s = .ok xs s1) (h2 : capD e is = some ys) (h3 : frzDs ys s1 = .ok ys' s2) (h4 : X.orc.fn f xs (s2 ++ [.env is ys']) = .ok (.bl q) s3) (h5 : noEnv (s3.take s2.length) = true) : evE X (.callC f es is) e s = .ok (.bl q) (s3.take s2.length) := by
  show bnd (evEs X es e) _ s = _
  rw [bnd_ok h1]
  show (optB (capD e is) _) s1 = _
  rw [h2]
  show bnd (frzDs ys) _ s1 = _
  rw [bnd_ok h3]
  simp only [h4, h5, if_true]
theorem r_mkb {f : Bm} {m : Bool} {RD : R D} (h1 : evEs X es e s = .ok xs s1) (h2 : mkD f m xs s1 = RD) : evE X (.mkb f m es) e s = RD := by
  show bnd (evEs X es e) _ s = _
  rw [bnd_ok h1]
  exact h2
theorem r_seq {ys : List D} (h1 : evE X a e s = .ok x s1) (h2 : frzD x s1 = .ok y s2) (h3 : itemsO y = some ys) : evIt X (.seq a) e s = .ok ys s2 := by
  show bnd (evE X a e) _ s = _
  rw [bnd_ok h1, bnd_ok h2, h3]
  rfl
theorem w_sl {m : Bool} {lo hi : Es} (h : Wp (evE X a e s) fun x s1 => Wp (evEs X lo e s1) fun l s2 => ∃ l', optI l = some l' ∧ Wp (evEs X hi e s2) fun h s3 => ∃ h', optI h = some h' ∧ Wp (cutO m x l' h' s3) QD) : Wp (evE X (.sl m a lo hi) e s) QD := by
  refine w_bnd (w_mono h ?_)
  intro x s1 h
  refine w_bnd (w_mono h ?_)
  rintro l s2 ⟨l', e1, h⟩
  rw [e1]
  refine w_bnd (w_mono h ?_)
  rintro hh s3 ⟨h', e2, h⟩
  rw [e2]
  exact h
theorem w_ife {t : T} (h : Wp (evT X t e s) fun q s1 => (q = true → Wp (evE X a e s1) QD) ∧ (q = false → Wp (evE X b e s1) QD)) : Wp (evE X (.ife t a b) e s) QD := by
  refine w_bnd (w_mono h ?_)
  rintro q s1 ⟨h1, h2⟩
  cases q with
  | true => exact h1 rfl
  | false => exact h2 rfl
theorem w_met {f : Me} (h : Wp (evE X a e s) fun x s1 => metB f (thD x s1) = true ∧ Wp (evEs X es e s1) fun xs s2 => Wp (metD x f xs s2) QD) : Wp (evE X (.met a f es) e s) QD := by
  refine w_bnd (w_mono h ?_)
  rintro x s1 ⟨h1, h2⟩
  show Wp (if metB f (thD x s1) then _ else _) _
  rw [if_pos h1]
  exact w_bnd h2
theorem w_comp {m : Bool} {own : List (Str × Nat)} {tg : Tg} {it : It} {cs : Ts} {elt : E}
    (h : Wp (evItQ X it e s) fun q s1 => Wp (loopC (compT X own tg cs elt e) q.1 s1) fun ys s2 => ys.length ≤ 1000000 ∧ Wp (shwD q.2 s2) fun _ s3 => Wp (alloc m (.lst ys) s3) QD) : Wp (evE X (.comp m own tg it cs elt) e s) QD := by
  refine w_bnd (w_mono h ?_)
  intro q s1 h
  obtain ⟨ys, s2, e2, h1, h2⟩ := h
  have e3 : nox (loopC (compT X own tg cs elt e) q.1) s1 = .ok ys s2 := by
    unfold nox
    rw [e2]
  refine w_bnd (w_rfl e3 (w_bnd (w_mono h2 ?_)))
  intro u s3 h2
  show Wp ((if decide (ys.length ≤ 1000000) then alloc m (.lst ys) else no) s3) QD
  rw [decide_eq_true h1]
  exact h2
/-- nothing is kept aside -/
theorem w_comp0 {m : Bool} {own : List (Str × Nat)} {tg : Tg} {it : It} {cs : Ts} {elt : E} (hi : evItQ X it = fun e => bnd (evIt X it e) fun xs => ret (xs, none))
    (h : Wp (evIt X it e s) fun xs s1 => Wp (loopC (compT X own tg cs elt e) xs s1) fun ys s2 => ys.length ≤ 1000000 ∧ Wp (alloc m (.lst ys) s2) QD) : Wp (evE X (.comp m own tg it cs elt) e s) QD := by
  refine w_comp ?_
  rw [hi]
  refine w_bnd (w_mono h ?_)
  intro xs s1 h
  refine w_ok (w_mono h ?_)
  rintro ys s2 ⟨h1, h2⟩
  exact ⟨h1, w_ok h2⟩
/-- tests -/
theorem v_val (h : Wp (evE X a e s) fun x s1 => ∃ q, truD x s1 = some q ∧ QB q s1) : Wp (evT X (.val a) e s) QB := by
  refine w_bnd (w_mono h ?_)
  rintro x s1 ⟨q, h1, h2⟩
  show Wp (match truD x s1 with | some r => R.ok r s1 | none => R.no) QB
  rw [h1]
  exact w_ok h2
theorem v_cmp {op : CmpOp} (h : Wp (evE X a e s) fun x s1 => Wp (evE X b e s1) fun y s2 => Wp (cmpD op x y s2) QB) : Wp (evT X (.cmp op a b) e s) QB := by
  refine w_bnd (w_mono h ?_)
  intro x s1 h
  exact w_bnd h
theorem v_and {t u : T} (h : Wp (evT X t e s) fun q s1 => (q = true → Wp (evT X u e s1) QB) ∧ (q = false → QB false s1)) : Wp (evT X (.and t u) e s) QB := by
  refine w_bnd (w_mono h ?_)
  rintro q s1 ⟨h1, h2⟩
  cases q with
  | true => exact h1 rfl
  | false => exact w_ok (h2 rfl)
theorem v_or {t u : T} (h : Wp (evT X t e s) fun q s1 => (q = true → QB true s1) ∧ (q = false → Wp (evT X u e s1) QB)) : Wp (evT X (.or t u) e s) QB := by
  refine w_bnd (w_mono h ?_)
  rintro q s1 ⟨h1, h2⟩
  cases q with
  | true => exact w_ok (h1 rfl)
  | false => exact h2 rfl
theorem v_not {t : T} (h : Wp (evT X t e s) fun q s1 => QB (!q) s1) : Wp (evT X (.not t) e s) QB := by
  refine w_bnd (w_mono h ?_)
  intro q s1 h
  exact w_ok h
end
/-! ### turns of comprehensions -/
section
variable {X : Cx'} {e e' : En} {s : Sto} {own : List (Str × Nat)} {tg : Tg} {t : T} {elt : E} {x : D} {Q : Option D → Sto → Prop}
theorem ct_elt (ha : asgP tg x (own.foldl (fun e p => e.set p.2 none) e) = some e') (h : Wp (evE X elt e' s) fun d s1 => Wp (frzD d s1) fun d s2 => Q (some d) s2) : Wp (compT X own tg .nil elt e x s) Q := by
  unfold compT
  rw [ha]
  show Wp (bnd (evE X elt e') _ s) Q
  refine w_bnd (w_mono h ?_)
  intro d s1 h
  exact w_bnd (w_mono h fun d s2 h => w_ok h)
theorem ct_if (ha : asgP tg x (own.foldl (fun e p => e.set p.2 none) e) = some e') (h : Wp (evT X t e' s) fun q s1 => (q = true → Wp (evE X elt e' s1) fun d s1 => Wp (frzD d s1) fun d s2 => Q (some d) s2) ∧ (q = false → Q none s1)) : Wp (compT X own tg (.cons t .nil) elt e x s) Q := by
  unfold compT
  rw [ha]
  refine w_bnd (w_bnd (w_mono h ?_))
  rintro q s1 ⟨h1, h2⟩
  cases q with
  | true =>
    refine w_ok (w_bnd (w_mono (h1 rfl) ?_))
    intro d s1 h
    exact w_bnd (w_mono h fun d s2 h => w_ok h)
  | false => exact w_ok (w_ok (h2 rfl))
end
theorem kk_nx {X : Cx'} {r : Ss} {e : En} {s : Sto} {Q : Fl → Sto → Prop} (h : Wp (evSs X r e s) Q) : KK X r Q (.nx e) s := h
/-! ### iterations -/
section
variable {X : Cx'} {e e' : En} {s s' s1 s2 s3 : Sto} {a b c : E} {es : Es} {xs : List D} {QL : List D → Sto → Prop}
theorem w_seq (h : Wp (evE X a e s) fun x s1 => Wp (frzD x s1) fun x s2 => ∃ xs, itemsO x = some xs ∧ QL xs s2) : Wp (evIt X (.seq a) e s) QL := by
  refine w_bnd (w_mono h ?_)
  intro x s1 h
  refine w_bnd (w_mono h ?_)
  rintro y s2 ⟨xs, h1, h2⟩
  rw [h1]
  exact w_ok h2
theorem w_rng (h : Wp (evEs X es e s) fun xs s1 => ∃ ys, rngD xs = some ys ∧ QL ys s1) : Wp (evIt X (.rng es) e s) QL := by
  refine w_bnd (w_mono h ?_)
  rintro xs s1 ⟨ys, h1, h2⟩
  rw [h1]
  exact w_ok h2
end
theorem rng_of {n : Nat} (h : n ≤ 1000000) : rngD [.int (n : Int)] = some ((List.range n).map fun (i : Nat) => D.int i) := by
  show (if smI (n : Int) then some _ else none) = _
  have : smI (n : Int) = true := by
    unfold smI
    rw [decide_eq_true (by omega), decide_eq_true (by omega)]
    rfl
  rw [this]
  simp
/-! ### loops -/
theorem loop_w {f : D → En → M Fl} {Q : Fl → Sto → Prop} (I : Nat → En → Sto → Prop) : ∀ {xs : List D} {i : Nat} {e : En} {s : Sto}, I i e s → (∀ j x e s, xs[j]? = some x → I (i + j) e s → Wp (f x e s) fun fl s' => ∃ e', fl = .nx e' ∧ I (i + j + 1) e' s') → (∀ e s, I (i + xs.length) e s → Q (.nx e) s) → Wp (loopF f xs e s) Q
  | [], i, e, s, h, _, q => w_ok (q e s h)
  | x :: xs, i, e, s, h, hs, q => by
    obtain ⟨fl, s1, e1, e', rfl, h1⟩ := hs 0 x e s rfl h
    refine w_bnd (w_rfl e1 ?_)
    refine loop_w I (xs := xs) (i := i + 1) h1 ?_ ?_
    · intro j y e s hj hi
      have := hs (j + 1) y e s (by simpa using hj) (by rw [← Nat.add_assoc, Nat.add_right_comm]; exact hi)
      rw [show i + 1 + j + 1 = i + (j + 1) + 1 by omega]
      exact this
    · intro e s hi
      exact q e s (by rw [List.length_cons, show i + (xs.length + 1) = i + 1 + xs.length by omega]; exact hi)
/-- each item makes one -/
theorem loopC_w {f : D → M (Option D)} {Q : List D → Sto → Prop} (I : Nat → Sto → Prop) (P : D → D → Prop) : ∀ {xs : List D} {i : Nat} {s : Sto}, I i s → (∀ j x s, xs[j]? = some x → I (i + j) s → Wp (f x s) fun o s' => ∃ y, o = some y ∧ P x y ∧ I (i + j + 1) s') → (∀ (ys : List D) s, ys.length = xs.length → (∀ (j : Nat) x, xs[j]? = some x → ∃ y, ys[j]? = some y ∧ P x y) → I (i + xs.length) s → Q ys s) → Wp (loopC f xs s) Q
  | [], i, s, h, _, q => w_ok (q [] s rfl (fun j x hx => by simp at hx) h)
  | x :: xs, i, s, h, hs, q => by
    obtain ⟨o, s1, e1, y, rfl, hp, h1⟩ := hs 0 x s rfl h
    refine w_bnd (w_rfl e1 ?_)
    refine w_bnd (loopC_w I P (xs := xs) (i := i + 1) h1 ?_ ?_)
    · intro j y s hj hi
      have := hs (j + 1) y s (by simpa using hj) (by rw [← Nat.add_assoc, Nat.add_right_comm]; exact hi)
      rw [show i + 1 + j + 1 = i + (j + 1) + 1 by omega]
      exact this
    · intro ys s hl hy hi
      refine w_ok (q (y :: ys) s (by simp [hl]) ?_ (by rw [List.length_cons, show i + (xs.length + 1) = i + 1 + xs.length by omega]; exact hi))
      intro j z hz
      cases j with
      | zero =>
        have : x = z := by simpa using hz
        exact ⟨y, rfl, this ▸ hp⟩
      | succ j => exact hy j z (by simpa using hz)
/-- nothing is drawn: each item makes one or none -/
theorem loopC_pure {f : D → M (Option D)} {g : D → Option D} {s : Sto} : ∀ {xs : List D}, (∀ x ∈ xs, f x s = .ok (g x) s) → loopC f xs s = .ok (xs.filterMap g) s
  | [], _ => rfl
  | x :: xs, h => by
    have e1 := h x (List.mem_cons_self ..)
    have e2 := loopC_pure (f := f) (g := g) (s := s) (xs := xs) fun y hy => h y (List.mem_cons_of_mem _ hy)
    show bnd (f x) _ s = _
    rw [bnd_ok e1, bnd_ok e2]
    rw [List.filterMap_cons]
    cases g x <;> rfl
/-! ### calls -/
section
variable {G : Gl} {k : Nat} {f : Str} {F : Fn} {xs : List D} {s s' j : Sto} {d : D} {Q : D → Sto → Prop}
theorem fn_w (hf : G.fn f = some F) (hd : F.dfl = []) (hl : xs.length = F.np) (h : Wp (evSs (cxK G k) F.body (env0 F xs) s) (Ret s.length Q)) : Wp ((orcAt G (k + 1)).fn f xs s) Q := by
  rw [call_def hf hd hl]
  unfold runB
  obtain ⟨fl, s', e, h⟩ := h
  have hb' : evSs (cxK G k) F.body (xs.map some ++ List.replicate (F.nl - xs.length) none) s = .ok fl s' := e
  rw [hb']
  cases fl with
  | nx e => exact w_ok h
  | rt d => exact h
  | bk e => exact h.elim
  | ct e => exact h.elim
theorem ret_w {n : Nat} (hl : s.length = n) (hp : plainD d = true) (h : Q d s) : Ret n Q (.rt d) s := by
  refine w_rfl (leave_plain hp n s) ?_
  rw [← hl, List.take_length]
  exact h
theorem ret_cut {n : Nat} (hl : s.length = n) (hp : plainD d = true) (h : Q d s) : Ret n Q (.rt d) (s ++ j) := by
  refine w_rfl (leave_plain hp n _) ?_
  rw [← hl, List.take_left' rfl]
  exact h
theorem ret_mu {n i : Nat} (hi : n ≤ i) (h : Q (.mu i) s) : Ret n Q (.rt (.mu i)) s := by
  refine w_rfl (a := .mu i) (s := s) ?_ h
  show (if i < n then _ else _) = _
  rw [if_neg (by omega)]
theorem frz_plain {d : D} (h : plainD d = true) (s : Sto) : frzD d s = .ok d s := by
  cases d <;> first | rfl | cases h
theorem frzs_plain {s : Sto} : ∀ {xs : List D}, (∀ d ∈ xs, plainD d = true) → frzDs xs s = .ok xs s
  | [], _ => rfl
  | x :: xs, h => by
    show bnd (frzD x) _ s = _
    rw [bnd_ok (frz_plain (h x (List.mem_cons_self ..)) s), bnd_ok (frzs_plain fun d hd => h d (List.mem_cons_of_mem _ hd))]
    rfl
theorem ins_ok {k : Nat} {ys : List D} {v : D} {s : Sto} (h : s[k]? = some (.lst ys)) (hv : plainD v = true) (hl : ys.length < 1000000) : metD (.mu k) .insert [.int 0, v] s = .ok .non (s.set k (.lst (v :: ys))) := by
  show bnd (frzD v) _ s = _
  rw [bnd_ok (frz_plain hv s)]
  simp only [h, decide_eq_true hl, if_true, decide_true]
theorem call_cut (hf : G.fn f = some F) (hd : F.dfl = []) (hl : xs.length = F.np) (hp : plainD d = true) (hb : evSs (cxK G k) F.body (env0 F xs) s = .ok (.rt d) (s ++ j)) :
    (orcAt G (k + 1)).fn f xs s = .ok d s := by
  rw [call_def hf hd hl]
  unfold runB
  have hb' : evSs (cxK G k) F.body (xs.map some ++ List.replicate (F.nl - xs.length) none) s = .ok (.rt d) (s ++ j) := hb
  rw [hb']
  show leave s.length d (s ++ j) = _
  rw [leave_plain hp, List.take_left' rfl]
theorem call_nx {e : En} (hf : G.fn f = some F) (hd : F.dfl = []) (hl : xs.length = F.np) (hs : s'.length = s.length) (hb : evSs (cxK G k) F.body (env0 F xs) s = .ok (.nx e) s') :
    (orcAt G (k + 1)).fn f xs s = .ok .non s' := by
  rw [call_def hf hd hl]
  unfold runB
  have hb' : evSs (cxK G k) F.body (xs.map some ++ List.replicate (F.nl - xs.length) none) s = .ok (.nx e) s' := hb
  rw [hb']
  show R.ok D.non (s'.take s.length) = _
  rw [take_self hs]
theorem mk_ok {b : Bm} {m : Bool} {xs : List D} {s : Sto} {o : MO} (h : mkO b (xs.map (thD · s)) = some o) : mkD b m xs s = alloc m o s := by
  simp only [mkD, h]
theorem set_dct {m : Nat} {b v v' : D} {s s1 : Sto} {ks : List Ky} {xs : List D} {k : Ky} (hf : frzD v s = .ok v' s1) (h : s1[m]? = some (.dct ks xs)) (hk : keyD b = some k) (hl : ks.length < 1000000) : setD (.mu m) b v s = .ok () (s1.set m (.dct (putK ks xs k v').1 (putK ks xs k v').2)) := by
  show bnd (frzD v) _ s = _
  rw [bnd_ok hf]
  simp only [h, hk, decide_eq_true hl, if_true]
theorem thD_lst {k : Nat} {xs : List D} {s : Sto} (h : s[k]? = some (.lst xs)) : thD (.mu k) s = .lst xs := by
  simp only [thD, h]
theorem thD_fr {k : Nat} {d : D} {s : Sto} (h : s[k]? = some (.fr d)) : thD (.mu k) s = d := by
  simp only [thD, h]
theorem thD_dct {k : Nat} {ks : List Ky} {xs : List D} {s : Sto} (h : s[k]? = some (.dct ks xs)) : thD (.mu k) s = .dct ks xs := by
  simp only [thD, h]
theorem app_ok {k : Nat} {ys : List D} {v : D} {s : Sto} (h : s[k]? = some (.lst ys)) (hv : plainD v = true) (hl : ys.length < 1000000) : metD (.mu k) .append [v] s = .ok .non (s.set k (.lst (ys ++ [v]))) := by
  show bnd (frzD v) _ s = _
  rw [bnd_ok (frz_plain hv s)]
  simp only [h, decide_eq_true hl, if_true]
theorem pop_ok {k j : Nat} {ys : List D} {v : D} {i : Int} {s : Sto} (h : s[k]? = some (.lst ys)) (hj : ixN ys.length i = some j) (hv : ys[j]? = some v) : metD (.mu k) .pop [.int i] s = .ok v (s.set k (.lst (ys.eraseIdx j))) := by
  simp only [metD, h, hj, hv]
theorem frz_lst {k : Nat} {xs : List D} {s : Sto} (h : s[k]? = some (.lst xs)) : frzD (.mu k) s = .ok (.lst xs) (s.set k (.fr (.lst xs))) := by
  simp only [frzD, h]
theorem frz_fr {k : Nat} {d : D} {s : Sto} (h : s[k]? = some (.fr d)) : frzD (.mu k) s = .ok d s := by
  simp only [frzD, h]
theorem frz_dct {k : Nat} {ks : List Ky} {xs : List D} {s : Sto} (h : s[k]? = some (.dct ks xs)) : frzD (.mu k) s = .ok (.dct ks xs) (s.set k (.fr (.dct ks xs))) := by
  simp only [frzD, h]
theorem hid_lst {k : Nat} {xs : List D} {s : Sto} (h : s[k]? = some (.lst xs)) : hidD (.mu k) s = .ok (.lst xs, some (k, xs)) (s.set k (.env [] [])) := by
  simp only [hidD, h]
theorem hid_fr {k : Nat} {d : D} {s : Sto} (h : s[k]? = some (.fr d)) : hidD (.mu k) s = .ok (d, none) s := by
  simp only [hidD, h]
  show bnd (frzD (.mu k)) _ s = _
  rw [bnd_ok (frz_fr h)]
  rfl
theorem shw_ok {k : Nat} {xs : List D} {s : Sto} (h : s[k]? = some (.env [] [])) : shwD (some (k, xs)) s = .ok () (s.set k (.lst xs)) := by
  simp only [shwD, h]
end
/-! ### comprehensions that draw nothing -/
section
variable {X : Cx'} {e e' : En} {s s1 s2 s3 : Sto} {own : List (Str × Nat)} {tg : Tg} {t : T} {cs : Ts} {elt : E} {x d : D} {it : It} {m : Bool} {xs ys : List D} {h : Option (Nat × List D)} {RD : R D}
theorem r_comp (hi : evItQ X it e s = .ok (xs, h) s1) (hl : loopC (compT X own tg cs elt e) xs s1 = .ok ys s2) (hn : ys.length ≤ 1000000) (hs : shwD h s2 = .ok () s3) (ha : alloc m (.lst ys) s3 = RD) : evE X (.comp m own tg it cs elt) e s = RD := by
  have e3 : nox (loopC (compT X own tg cs elt e) xs) s1 = .ok ys s2 := by
    unfold nox
    rw [hl]
  show bnd (evItQ X it e) _ s = _
  rw [bnd_ok hi]
  show bnd (nox (loopC (compT X own tg cs elt e) xs)) _ s1 = _
  rw [bnd_ok e3]
  show bnd (shwD h) _ s2 = _
  rw [bnd_ok hs]
  show (if decide (ys.length ≤ 1000000) then alloc m (.lst ys) else no) s3 = _
  rw [decide_eq_true hn]
  exact ha
theorem c_elt (ha : asgP tg x (own.foldl (fun e p => e.set p.2 none) e) = some e') (h : evE X elt e' s = .ok d s1) (hf : frzD d s1 = .ok d s1) : compT X own tg .nil elt e x s = .ok (some d) s1 := by
  unfold compT
  rw [ha]
  show bnd (evE X elt e') _ s = _
  rw [bnd_ok h, bnd_ok hf]
  rfl
theorem c_if {q : Bool} (ha : asgP tg x (own.foldl (fun e p => e.set p.2 none) e) = some e') (ht : evT X t e' s = .ok q s1) (h : q = true → evE X elt e' s1 = .ok d s1) (hf : q = true → frzD d s1 = .ok d s1) : compT X own tg (.cons t .nil) elt e x s = .ok (if q then some d else none) s1 := by
  unfold compT
  rw [ha]
  show bnd (bnd (evT X t e') _) _ s = _
  rw [bnd_bnd, bnd_ok ht]
  cases q with
  | true =>
    show bnd (evE X elt e') _ s1 = _
    rw [bnd_ok (h rfl), bnd_ok (hf rfl)]
    rfl
  | false => rfl
end
theorem loopC_pm {ι : Type} {f : D → M (Option D)} {s : Sto} (h : ι → D) (g : ι → Option D) : ∀ {is : List ι}, (∀ i ∈ is, f (h i) s = .ok (g i) s) → loopC f (is.map h) s = .ok (is.filterMap g) s
  | [], _ => rfl
  | x :: xs, hh => by
    have e1 := hh x (List.mem_cons_self ..)
    have e2 := loopC_pm (f := f) h g (s := s) (is := xs) fun y hy => hh y (List.mem_cons_of_mem _ hy)
    show bnd (f (h x)) _ s = _
    rw [bnd_ok e1, bnd_ok e2, List.filterMap_cons]
    cases g x <;> rfl
/-! ### closures told -/
section
variable {X : Cx'} {e e' : En} {s s1 s2 s3 : Sto} {a : E} {r : Ss} {d : D}
theorem r_lamN {i l : Nat} {RF : R Fl} (h1 : evE X a e s = .ok d s1) (h2 : frzD d s1 = .ok d s1) (h3 : evSs X r (setE e i (.mu s1.length)) (s1 ++ [.lst [.tup [.clo l, d]]]) = RF) : evSs X (.cons (.lamN i l a) r) e s = RF := by
  show bnd (bnd (evE X a e) _) _ s = _
  rw [bnd_bnd, bnd_ok h1, bnd_bnd, bnd_ok h2]
  exact h3
theorem r_lamA {i l m : Nat} {ys : List D} {RF : R Fl} (h0 : e[i]? = some (some (.mu m))) (h1 : evE X a e s = .ok d s) (h2 : frzD d s = .ok d s) (h3 : s[m]? = some (.lst ys)) (h4 : ys.length < 1000000) (h5 : evSs X r e (s.set m (.lst (ys ++ [.tup [.clo l, d]]))) = RF) : evSs X (.cons (.lamA i l a) r) e s = RF := by
  have e1 : evS X (.lamA i l a) e s = .ok (.nx e) (s.set m (.lst (ys ++ [.tup [.clo l, d]]))) := by
    have hm : metD (.mu m) .append [.tup [.clo l, d]] s = .ok .non (s.set m (.lst (ys ++ [.tup [.clo l, d]]))) := app_ok h3 rfl h4
    have ht : thD (.mu m) s = .lst ys := by simp only [thD, h3]
    have hb : metB .append (thD (.mu m) s) = true := by rw [ht]; rfl
    simp only [evS, h0, hb, if_true]
    rw [bnd_ok h1, bnd_ok h2, bnd_ok hm]
    rfl
  exact r_cons e1 h5
theorem r_expX {x : Ex} (h1 : evE X a e s = .exc x s1) : evSs X (.cons (.exp a) r) e s = .exc x s1 := by
  refine r_stop ?_
  show bnd (evE X a e) _ s = _
  unfold bnd
  rw [h1]
end
end Ev
end
section
set_option linter.all false
set_option maxRecDepth 100000
namespace Kin
open PySem Ev
def F__law_draw : Fn := { np := 2, nl := 5, body :=
  (.cons (.asg (.ix (.v 0) (.c (.str "count"))) (.bin .Add (.ix (.v 0) (.c (.str "count"))) (.c (.int 1))))
  (.cons (.ite (.and (.cmp .Eq (.ix (.v 0) (.c (.str "digits"))) (.c (.int 0))) (.cmp .Lt (.ix (.v 0) (.c (.str "at"))) (.bi .len (.cons (.ix (.v 0) (.c (.str "cells"))) .nil)))) (.cons (.asg (.name 2) (.ix (.ix (.v 0) (.c (.str "cells"))) (.ix (.v 0) (.c (.str "at")))))
  (.cons (.asg (.ix (.v 0) (.c (.str "at"))) (.bin .Add (.ix (.v 0) (.c (.str "at"))) (.c (.int 1))))
  (.cons (.ite (.cmp .GtE (.v 2) (.bin .Pow (.c (.int 10)) (.c (.int 18)))) (.cons (.asg (.ix (.v 0) (.c (.str "digits"))) (.bin .Sub (.v 2) (.bin .Pow (.c (.int 10)) (.c (.int 18)))))
  .nil) (.cons (.asg (.ix (.v 0) (.c (.str "fold"))) (.bin .Mod (.bi .int (.cons (.bin .Add (.bin .Mult (.ix (.v 0) (.c (.str "fold"))) (.c (.int 30011))) (.v 2)) .nil)) (.c (.int 2147482921))))
  .nil))
  .nil))) .nil)
  (.cons (.ite (.cmp .Gt (.ix (.v 0) (.c (.str "digits"))) (.c (.int 0))) (.cons (.asg (.name 3) (.bin .Mod (.bi .int (.cons (.ix (.v 0) (.c (.str "digits"))) .nil)) (.v 1)))
  (.cons (.asg (.ix (.v 0) (.c (.str "digits"))) (.bin .FloorDiv (.ix (.v 0) (.c (.str "digits"))) (.v 1)))
  (.cons (.rtn (.v 3))
  .nil))) .nil)
  (.cons (.asg (.name 4) (.bin .Add (.bin .Add (.ix (.v 0) (.c (.str "fold"))) (.bin .Mult (.ix (.v 0) (.c (.str "count"))) (.c (.int 6311)))) (.c (.int 181))))
  (.cons (.rtn (.bin .Mod (.bin .FloorDiv (.bi .int (.cons (.bin .Mod (.bin .Pow (.v 4) (.c (.int 55))) (.c (.int 2305843009213693951))) .nil)) (.c (.int 1024))) (.v 1)))
  .nil))))) }
def F__law_pick : Fn := { np := 2, nl := 2, body :=
  (.cons (.rtn (.ix (.v 1) (.call "_law_draw" (.cons (.v 0) (.cons (.bi .len (.cons (.v 1) .nil)) .nil)))))
  .nil) }
def F__law_shuffled : Fn := { np := 2, nl := 5, body :=
  (.cons (.par [2, 3] (.cons (.mkb .list true (.cons (.v 1) .nil)) (.cons (.lst true .nil) .nil)))
  (.cons (.for_ (.name 4) (.rng (.cons (.bi .len (.cons (.v 1) .nil)) .nil)) (.cons (.exp (.met (.v 3) .append (.cons (.met (.v 2) .pop (.cons (.call "_law_draw" (.cons (.v 0) (.cons (.bi .len (.cons (.v 2) .nil)) .nil))) .nil)) .nil)))
  .nil))
  (.cons (.rtn (.v 3))
  .nil))) }
def F__law_gcd : Fn := { np := 2, nl := 3, body :=
  (.cons (.par [0, 1] (.cons (.bi .abs (.cons (.v 0) .nil)) (.cons (.bi .abs (.cons (.v 1) .nil)) .nil)))
  (.cons (.for_ (.name 2) (.rng (.cons (.bin .Add (.c (.int 4)) (.bin .Mult (.c (.int 2)) (.met (.bi .int (.cons (.v 1) .nil)) .bits .nil))) .nil)) (.cons (.ite (.cmp .Eq (.v 1) (.c (.int 0))) (.cons .brk
  .nil) .nil)
  (.cons (.par [0, 1] (.cons (.v 1) (.cons (.bin .Mod (.bi .int (.cons (.v 0) .nil)) (.v 1)) .nil)))
  .nil)))
  (.cons (.rtn (.v 0))
  .nil))) }
def F__law_q : Fn := { np := 2, nl := 3, body :=
  (.cons (.asg (.name 2) (.call "_law_gcd" (.cons (.v 0) (.cons (.v 1) .nil))))
  (.cons (.asg (.name 2) (.ife (.cmp .Lt (.v 1) (.c (.int 0))) (.neg (.v 2)) (.v 2)))
  (.cons (.rtn (.tup (.cons (.bin .FloorDiv (.v 0) (.v 2)) (.cons (.bin .FloorDiv (.v 1) (.v 2)) .nil))))
  .nil))) }
def F__law_times : Fn := { np := 2, nl := 2, body :=
  (.cons (.rtn (.call "_law_q" (.cons (.bin .Mult (.ix (.v 0) (.c (.int 0))) (.ix (.v 1) (.c (.int 0)))) (.cons (.bin .Mult (.ix (.v 0) (.c (.int 1))) (.ix (.v 1) (.c (.int 1)))) .nil))))
  .nil) }
def F__law_behind : Fn := { np := 2, nl := 4, body :=
  (.cons (.rtn (.comp false [("n", 2), ("node", 3)] (.tup (.cons (.name 2) (.cons (.name 3) .nil))) (.enum (.v 0)) (.cons (.cmp .Eq (.ix (.v 3) (.c (.int 1))) (.v 1)) .nil) (.v 2)))
  .nil) }
def F__law_leaves : Fn := { np := 1, nl := 2, body :=
  (.cons (.rtn (.comp false [("k", 1)] (.name 1) (.rng (.cons (.bi .len (.cons (.v 0) .nil)) .nil)) (.cons (.cmp .Eq (.call "_law_behind" (.cons (.v 0) (.cons (.v 1) .nil))) (.lst false .nil)) .nil) (.v 1)))
  .nil) }
def F__law_price : Fn := { np := 1, nl := 1, body :=
  (.cons (.rtn (.tup (.cons (.bin .Add (.c (.int 1)) (.call "_law_draw" (.cons (.v 0) (.cons (.c (.int 12)) .nil)))) (.cons (.call "_law_pick" (.cons (.v 0) (.cons (.lst false (.cons (.c (.int 1)) (.cons (.c (.int 1)) (.cons (.c (.int 1)) (.cons (.c (.int 2)) .nil))))) .nil))) .nil))))
  .nil) }
def F__law_bids : Fn := { np := 3, nl := 4, body :=
  (.cons (.ite (.or (.not (.val (.v 2))) (.cmp .Eq (.call "_law_draw" (.cons (.v 0) (.cons (.c (.int 2)) .nil))) (.c (.int 0)))) (.cons (.rtn (.v 1))
  .nil) .nil)
  (.cons (.rtn (.bi .tuple (.cons (.comp false [("item", 3)] (.name 3) (.seq (.v 1)) .nil (.call "_law_times" (.cons (.v 3) (.cons (.call "_law_pick" (.cons (.v 0) (.cons (.lst false (.cons (.tup (.cons (.c (.int 1)) (.cons (.c (.int 1)) .nil))) (.cons (.tup (.cons (.c (.int 9)) (.cons (.c (.int 10)) .nil))) (.cons (.tup (.cons (.c (.int 1)) (.cons (.c (.int 2)) .nil))) (.cons (.tup (.cons (.c (.int 3)) (.cons (.c (.int 4)) .nil))) .nil))))) .nil))) .nil)))) .nil)))
  .nil)) }
def F__law_tree : Fn := { np := 4, nl := 10, body :=
  (.cons (.asg (.name 4) (.lst true .nil))
  (.cons (.for_ (.name 5) (.rng (.cons (.bin .Add (.c (.int 1)) (.call "_law_draw" (.cons (.v 0) (.cons (.v 2) .nil)))) .nil)) (.cons (.asg (.name 6) (.bi .tuple (.cons (.comp false [("item", 8)] (.name 8) (.seq (.comp false [("j", 9)] (.name 9) (.rng (.cons (.v 1) .nil)) .nil (.call "_law_price" (.cons (.v 0) .nil)))) .nil (.call "_law_q" (.cons (.ix (.v 8) (.c (.int 0))) (.cons (.ix (.v 8) (.c (.int 1))) .nil)))) .nil)))
  (.cons (.asg (.name 7) (.ife (.cmp .Eq (.v 5) (.c (.int 0))) (.c .non) (.ife (.cmp .Eq (.call "_law_draw" (.cons (.v 0) (.cons (.c (.int 2)) .nil))) (.c (.int 0))) (.call "_law_draw" (.cons (.v 0) (.cons (.v 5) .nil))) (.bi .max (.cons (.c (.int 0)) (.cons (.bin .FloorDiv (.bin .Sub (.v 5) (.c (.int 1))) (.c (.int 2))) .nil))))))
  (.cons (.exp (.met (.v 4) .append (.cons (.tup (.cons (.bin .Add (.c (.str "n")) (.bi .str (.cons (.v 5) .nil))) (.cons (.v 7) (.cons (.v 6) (.cons (.call "_law_bids" (.cons (.v 0) (.cons (.v 6) (.cons (.v 3) .nil)))) .nil))))) .nil)))
  .nil))))
  (.cons (.rtn (.v 4))
  .nil))) }
def F__law_moved_tree : Fn := { np := 3, nl := 8, body :=
  (.cons (.asg (.name 3) (.lst true (.cons (.tup (.cons (.c (.str "n0")) (.cons (.c .non) (.cons (.tup (.cons (.tup (.cons (.c (.int 8)) (.cons (.c (.int 1)) .nil))) .nil)) (.cons (.tup (.cons (.tup (.cons (.c (.int 8)) (.cons (.c (.int 1)) .nil))) .nil)) .nil))))) .nil)))
  (.cons (.for_ (.name 4) (.rng (.cons (.v 1) .nil)) (.cons (.ite (.and (.cmp .Eq (.bi .len (.cons (.call "_law_behind" (.cons (.v 3) (.cons (.v 4) .nil))) .nil)) (.c (.int 0))) (.and (.cmp .Lt (.v 4) (.bi .len (.cons (.v 3) .nil))) (.cmp .LtE (.bin .Add (.bi .len (.cons (.v 3) .nil)) (.c (.int 2))) (.bin .Add (.bin .Mult (.c (.int 2)) (.v 1)) (.c (.int 1)))))) (.cons (.asg (.name 5) (.ix (.ix (.ix (.v 3) (.v 4)) (.c (.int 2))) (.c (.int 0))))
  (.cons (.for_ (.name 6) (.seq (.call "_law_pick" (.cons (.v 0) (.cons (.lst false (.cons (.lst false (.cons (.tup (.cons (.c (.int 3)) (.cons (.c (.int 2)) .nil))) (.cons (.tup (.cons (.c (.int 1)) (.cons (.c (.int 2)) .nil))) .nil))) (.cons (.lst false (.cons (.tup (.cons (.c (.int 5)) (.cons (.c (.int 4)) .nil))) (.cons (.tup (.cons (.c (.int 3)) (.cons (.c (.int 4)) .nil))) .nil))) (.cons (.lst false (.cons (.tup (.cons (.c (.int 2)) (.cons (.c (.int 1)) .nil))) (.cons (.tup (.cons (.c (.int 1)) (.cons (.c (.int 1)) .nil))) (.cons (.tup (.cons (.c (.int 1)) (.cons (.c (.int 2)) .nil))) .nil)))) (.cons (.lst false (.cons (.tup (.cons (.c (.int 4)) (.cons (.c (.int 3)) .nil))) (.cons (.tup (.cons (.c (.int 2)) (.cons (.c (.int 3)) .nil))) .nil))) .nil))))) .nil)))) (.cons (.asg (.name 7) (.tup (.cons (.call "_law_times" (.cons (.v 5) (.cons (.v 6) .nil))) .nil)))
  (.cons (.exp (.met (.v 3) .append (.cons (.tup (.cons (.bin .Add (.c (.str "n")) (.bi .str (.cons (.bi .len (.cons (.v 3) .nil)) .nil))) (.cons (.v 4) (.cons (.v 7) (.cons (.call "_law_bids" (.cons (.v 0) (.cons (.v 7) (.cons (.v 2) .nil)))) .nil))))) .nil)))
  .nil)))
  .nil)) .nil)
  .nil))
  (.cons (.rtn (.v 3))
  .nil))) }
def F__law_limits : Fn := { np := 3, nl := 6, body :=
  (.cons (.asg (.name 3) (.lst true .nil))
  (.cons (.for_ (.name 4) (.rng (.cons (.v 1) .nil)) (.cons (.asg (.name 5) (.ife (.val (.v 2)) (.call "_law_pick" (.cons (.v 0) (.cons (.lst false (.cons (.c .non) (.cons (.c .non) (.cons (.tup (.cons (.c (.int 0)) (.cons (.c (.int 1)) .nil))) (.cons (.tup (.cons (.neg (.c (.int 1))) (.cons (.c (.int 1)) .nil))) (.cons (.tup (.cons (.neg (.c (.int 2))) (.cons (.c (.int 1)) .nil))) .nil)))))) .nil))) (.c .non)))
  (.cons (.exp (.met (.v 3) .append (.cons (.tup (.cons (.v 5) (.cons (.ife (.val (.v 2)) (.call "_law_pick" (.cons (.v 0) (.cons (.lst false (.cons (.c .non) (.cons (.c .non) (.cons (.tup (.cons (.c (.int 1)) (.cons (.c (.int 1)) .nil))) (.cons (.tup (.cons (.c (.int 3)) (.cons (.c (.int 2)) .nil))) (.cons (.tup (.cons (.c (.int 0)) (.cons (.c (.int 1)) .nil))) .nil)))))) .nil))) (.c .non)) .nil))) .nil)))
  .nil)))
  (.cons (.rtn (.v 3))
  .nil))) }
def F__law_claim : Fn := { np := 4, nl := 7, body :=
  (.cons (.ite (.cmp .Eq (.v 2) (.c (.str "pays"))) (.cons (.asg (.name 4) (.call "_law_leaves" (.cons (.v 3) .nil)))
  (.cons (.rtn (.tup (.cons (.v 1) (.cons (.v 2) (.cons (.bi .tuple (.cons (.comp false [("k", 6)] (.name 6) (.rng (.cons (.bi .len (.cons (.v 3) .nil)) .nil)) .nil (.ife (.or (.cmp .In (.v 6) (.v 4)) (.cmp .Eq (.call "_law_draw" (.cons (.v 0) (.cons (.c (.int 4)) .nil))) (.c (.int 0)))) (.tup (.cons (.bin .Sub (.call "_law_draw" (.cons (.v 0) (.cons (.c (.int 6)) .nil))) (.c (.int 1))) (.cons (.c (.int 1)) .nil))) (.tup (.cons (.c (.int 0)) (.cons (.c (.int 1)) .nil))))) .nil)) .nil)))))
  .nil)) .nil)
  (.cons (.asg (.name 5) (.mkb .sorted false (.cons (.sl false (.call "_law_shuffled" (.cons (.v 0) (.cons (.lrg false (.cons (.bi .len (.cons (.v 3) .nil)) .nil)) .nil))) .nil (.cons (.bin .Add (.c (.int 1)) (.call "_law_draw" (.cons (.v 0) (.cons (.c (.int 4)) .nil)))) .nil)) .nil)))
  (.cons (.rtn (.tup (.cons (.v 1) (.cons (.v 2) (.cons (.bi .tuple (.cons (.comp false [("k", 6)] (.name 6) (.seq (.v 5)) .nil (.tup (.cons (.v 6) (.cons (.call "_law_q" (.cons (.bin .Sub (.call "_law_draw" (.cons (.v 0) (.cons (.c (.int 8)) .nil))) (.c (.int 1))) (.cons (.call "_law_pick" (.cons (.v 0) (.cons (.lst false (.cons (.c (.int 1)) (.cons (.c (.int 1)) (.cons (.c (.int 2)) .nil)))) .nil))) .nil))) .nil)))) .nil)) .nil)))))
  .nil))) }
def F__law_some_asks : Fn := { np := 3, nl := 9, body :=
  (.cons (.asg (.name 3) (.lst true .nil))
  (.cons (.for_ (.name 4) (.rng (.cons (.bin .Add (.c (.int 1)) (.call "_law_draw" (.cons (.v 0) (.cons (.v 2) .nil)))) .nil)) (.cons (.asg (.name 5) (.call "_law_pick" (.cons (.v 0) (.cons (.lst false (.cons (.c (.str "gains")) (.cons (.c (.str "whole")) (.cons (.c (.str "cost")) (.cons (.c (.str "cost")) (.cons (.c (.str "worth")) (.cons (.c (.str "copies")) (.cons (.c (.str "early")) (.cons (.c (.str "takes")) .nil))))))))) .nil))))
  (.cons (.asg (.name 6) (.comp false [("k", 7), ("claim", 8)] (.tup (.cons (.name 7) (.cons (.name 8) .nil))) (.enum (.ix (.v 1) (.c (.str "claims")))) (.cons (.cmp .Eq (.cmp .Eq (.ix (.v 8) (.c (.int 1))) (.c (.str "may"))) (.cmp .In (.v 5) (.tup (.cons (.c (.str "early")) (.cons (.c (.str "takes")) .nil))))) .nil) (.v 7)))
  (.cons (.ite (.or (.cmp .In (.v 5) (.tup (.cons (.c (.str "gains")) (.cons (.c (.str "whole")) .nil)))) (.cmp .Eq (.v 6) (.lst false .nil))) (.cons (.exp (.met (.v 3) .append (.cons (.tup (.cons (.call "_law_pick" (.cons (.v 0) (.cons (.lst false (.cons (.c (.str "gains")) (.cons (.c (.str "whole")) .nil))) .nil))) .nil)) .nil)))
  .nil) (.cons (.exp (.met (.v 3) .append (.cons (.tup (.cons (.v 5) (.cons (.call "_law_pick" (.cons (.v 0) (.cons (.v 6) .nil))) .nil))) .nil)))
  .nil))
  .nil))))
  (.cons (.rtn (.v 3))
  .nil))) }
def F__law_book : Fn := { np := 4, nl := 8, body :=
  (.cons (.ite (.cmp .Gt (.call "_law_draw" (.cons (.v 0) (.cons (.c (.int 3)) .nil))) (.c (.int 0))) (.cons (.par [4, 5] (.cons (.call "_law_moved_tree" (.cons (.v 0) (.cons (.bin .Add (.c (.int 1)) (.call "_law_draw" (.cons (.v 0) (.cons (.c (.int 2)) .nil)))) (.cons (.v 1) .nil)))) (.cons (.tup (.cons (.c (.str "s")) .nil)) .nil)))
  .nil) (.cons (.asg (.name 5) (.call "_law_pick" (.cons (.v 0) (.cons (.lst false (.cons (.tup (.cons (.c (.str "s")) .nil)) (.cons (.tup (.cons (.c (.str "s")) (.cons (.c (.str "t")) .nil))) .nil))) .nil))))
  (.cons (.asg (.name 4) (.call "_law_tree" (.cons (.v 0) (.cons (.bi .len (.cons (.v 5) .nil)) (.cons (.c (.int 5)) (.cons (.v 1) .nil))))))
  .nil)))
  (.cons (.asg (.name 6) (.lst true (.cons (.call "_law_claim" (.cons (.v 0) (.cons (.c (.str "c0")) (.cons (.c (.str "pays")) (.cons (.v 4) .nil))))) (.cons (.call "_law_claim" (.cons (.v 0) (.cons (.c (.str "e0")) (.cons (.c (.str "may")) (.cons (.v 4) .nil))))) .nil))))
  (.cons (.ite (.cmp .Eq (.call "_law_draw" (.cons (.v 0) (.cons (.c (.int 2)) .nil))) (.c (.int 0))) (.cons (.exp (.met (.v 6) .append (.cons (.call "_law_claim" (.cons (.v 0) (.cons (.c (.str "c1")) (.cons (.c (.str "pays")) (.cons (.v 4) .nil))))) .nil)))
  .nil) .nil)
  (.cons (.asg (.name 7) (.dct true [.inr "things", .inr "nodes", .inr "limits", .inr "claims", .inr "asks"] (.cons (.v 5) (.cons (.v 4) (.cons (.call "_law_limits" (.cons (.v 0) (.cons (.bi .len (.cons (.v 5) .nil)) (.cons (.v 2) .nil)))) (.cons (.v 6) (.cons (.lst false .nil) .nil)))))))
  (.cons (.asg (.ix (.v 7) (.c (.str "asks"))) (.call "_law_some_asks" (.cons (.v 0) (.cons (.v 7) (.cons (.v 3) .nil)))))
  (.cons (.rtn (.v 7))
  .nil)))))) }
def F__law_built : Fn := { np := 1, nl := 1, body :=
  (.cons (.rtn (.mk "Model" (.cons (.bi .tuple (.cons (.ix (.v 0) (.c (.str "things"))) .nil)) (.cons (.bi .tuple (.cons (.ix (.v 0) (.c (.str "nodes"))) .nil)) (.cons (.bi .tuple (.cons (.ix (.v 0) (.c (.str "limits"))) .nil)) (.cons (.bi .tuple (.cons (.ix (.v 0) (.c (.str "claims"))) .nil)) (.cons (.bi .tuple (.cons (.ix (.v 0) (.c (.str "asks"))) .nil)) .nil)))))))
  .nil) }
def F__law_with : Fn := { np := 3, nl := 4, body :=
  (.cons (.asg (.name 3) (.mkb .dict true (.cons (.v 0) .nil)))
  (.cons (.asg (.ix (.v 3) (.v 1)) (.v 2))
  (.cons (.rtn (.v 3))
  .nil))) }
def F__law_root_alone : Fn := { np := 2, nl := 6, body :=
  (.cons (.ite (.cmp .Gt (.call "_law_draw" (.cons (.v 0) (.cons (.c (.int 12)) .nil))) (.c (.int 0))) (.cons (.rtn (.v 1))
  .nil) .nil)
  (.cons (.asg (.name 2) (.comp false [("name", 3), ("word", 4), ("rows", 5)] (.tup (.cons (.name 3) (.cons (.name 4) (.cons (.name 5) .nil)))) (.seq (.ix (.v 1) (.c (.str "claims")))) .nil (.tup (.cons (.v 3) (.cons (.v 4) (.cons (.ife (.cmp .Eq (.v 4) (.c (.str "pays"))) (.sl false (.v 5) .nil (.cons (.c (.int 1)) .nil)) (.tup (.cons (.tup (.cons (.c (.int 0)) (.cons (.ix (.ix (.v 5) (.c (.int 0))) (.c (.int 1))) .nil))) .nil))) .nil))))))
  (.cons (.rtn (.call "_law_with" (.cons (.call "_law_with" (.cons (.v 1) (.cons (.c (.str "nodes")) (.cons (.sl false (.ix (.v 1) (.c (.str "nodes"))) .nil (.cons (.c (.int 1)) .nil)) .nil)))) (.cons (.c (.str "claims")) (.cons (.v 2) .nil)))))
  .nil))) }
def F__law_market : Fn := { np := 3, nl := 3, body :=
  (.cons (.rtn (.call "_law_root_alone" (.cons (.v 0) (.cons (.call "_law_book" (.cons (.v 0) (.cons (.v 1) (.cons (.v 2) (.cons (.c (.int 3)) .nil))))) .nil))))
  .nil) }
def F_copied : Fn := { np := 1, nl := 1, body :=
  (.cons (.rtn (.ife (.val (.isi (.v 0) [.ty "list"])) (.bi .tuple (.cons (.v 0) .nil)) (.v 0)))
  .nil) }
def C_Model : Cl := { np := 6, dfl := [.tup []], fs := ["things", "nodes", "limits", "claims", "asks", "measures"], es := (.cons (.call "copied" (.cons (.v 1) .nil)) (.cons (.call "copied" (.cons (.v 2) .nil)) (.cons (.call "copied" (.cons (.v 3) .nil)) (.cons (.call "copied" (.cons (.v 4) .nil)) (.cons (.call "copied" (.cons (.v 5) .nil)) (.cons (.call "copied" (.cons (.v 6) .nil)) .nil)))))) }
structure Base (G : Gl) : Prop where
  _law_draw : G.fn "_law_draw" = some F__law_draw
  _law_pick : G.fn "_law_pick" = some F__law_pick
  _law_shuffled : G.fn "_law_shuffled" = some F__law_shuffled
  _law_gcd : G.fn "_law_gcd" = some F__law_gcd
  _law_q : G.fn "_law_q" = some F__law_q
  _law_times : G.fn "_law_times" = some F__law_times
  _law_behind : G.fn "_law_behind" = some F__law_behind
  _law_leaves : G.fn "_law_leaves" = some F__law_leaves
  _law_price : G.fn "_law_price" = some F__law_price
  _law_bids : G.fn "_law_bids" = some F__law_bids
  _law_tree : G.fn "_law_tree" = some F__law_tree
  _law_moved_tree : G.fn "_law_moved_tree" = some F__law_moved_tree
  _law_limits : G.fn "_law_limits" = some F__law_limits
  _law_claim : G.fn "_law_claim" = some F__law_claim
  _law_some_asks : G.fn "_law_some_asks" = some F__law_some_asks
  _law_book : G.fn "_law_book" = some F__law_book
  _law_built : G.fn "_law_built" = some F__law_built
  _law_with : G.fn "_law_with" = some F__law_with
  _law_root_alone : G.fn "_law_root_alone" = some F__law_root_alone
  _law_market : G.fn "_law_market" = some F__law_market
  copied : G.fn "copied" = some F_copied
  c_Model : G.cls "Model" = some C_Model
  n_Model : G.fn "Model" = none
  wf : G.wf = 1000
def F__law_pen : Fn := { np := 1, nl := 3, body :=
  (.cons (.asg (.name 1) (.c (.int 0)))
  (.cons (.for_ (.name 2) (.seq (.v 0)) (.cons (.asg (.name 1) (.bin .Mod (.bi .int (.cons (.bin .Add (.bin .Mult (.v 1) (.c (.int 191))) (.v 2)) .nil)) (.c (.int 999999137))))
  .nil))
  (.cons (.rtn (.dct true [.inr "cells", .inr "at", .inr "digits", .inr "count", .inr "fold"] (.cons (.mkb .list false (.cons (.v 0) .nil)) (.cons (.c (.int 0)) (.cons (.c (.int 0)) (.cons (.c (.int 0)) (.cons (.v 1) .nil)))))))
  .nil))) }
structure Penn (G : Gl) : Prop where
  _law_pen : G.fn "_law_pen" = some F__law_pen
def F__law_table_fault : Fn := { np := 1, nl := 2, body :=
  (.cons (.try_ 1 (.cons (.exp (.cal 0 .nil))
  (.cons (.rtn (.c .non))
  .nil)) (.cons "BadNumber" (.tup (.cons (.c (.str "number")) (.cons (.xf "what") (.cons (.xf "number") .nil)))) (.cons "BadRow" (.tup (.cons (.c (.str "row")) (.cons (.xf "row") .nil))) (.cons "BadTable" (.tup (.cons (.c (.str "table")) (.cons (.xf "table") .nil))) (.cons "Unlike" (.tup (.cons (.c (.str "unlike")) (.cons (.xf "what") .nil))) .nil)))))
  .nil) }
def F__law_tables_due : Fn := { np := 1, nl := 3, body :=
  (.cons (.rtn (.bi .all (.cons (.comp false [("action", 1), ("due", 2)] (.tup (.cons (.name 1) (.cons (.name 2) .nil))) (.seq (.v 0)) .nil (.cmp .Eq (.bi .repr (.cons (.call "_law_table_fault" (.cons (.v 1) .nil)) .nil)) (.bi .repr (.cons (.v 2) .nil)))) .nil)))
  .nil) }
structure Tab (G : Gl) : Prop where
  _law_table_fault : G.fn "_law_table_fault" = some F__law_table_fault
  _law_tables_due : G.fn "_law_tables_due" = some F__law_tables_due
def F_is_whole : Fn := { np := 1, nl := 1, body :=
  (.cons (.rtn (.andv (.isi (.v 0) [.ty "int"]) (.notv (.isi (.v 0) [.ty "bool"]))))
  .nil) }
def F_need_between : Fn := { np := 4, nl := 4, body :=
  (.cons (.ite (.not (.val (.call "is_whole" (.cons (.v 1) .nil)))) (.cons (.rse "BadNumber" (.cons (.v 0) (.cons (.v 1) .nil)))
  .nil) .nil)
  (.cons (.ite (.or (.and (.cmp .IsNot (.v 2) (.c .non)) (.cmp .Lt (.v 1) (.v 2))) (.and (.cmp .IsNot (.v 3) (.c .non)) (.cmp .Gt (.v 1) (.v 3)))) (.cons (.rse "BadNumber" (.cons (.v 0) (.cons (.v 1) .nil)))
  .nil) .nil)
  .nil)) }
def F_need_model : Fn := { np := 1, nl := 1, body :=
  (.cons (.ite (.not (.val (.isi (.v 0) [.own "Model"]))) (.cons (.rse "Unlike" (.cons (.c (.str "model")) .nil))
  .nil) .nil)
  .nil) }
def F_need_node : Fn := { np := 2, nl := 2, body :=
  (.cons (.exp (.call "need_between" (.cons (.c (.str "node")) (.cons (.v 1) (.cons (.c (.int 0)) (.cons (.bin .Sub (.bi .len (.cons (.fld (.v 0) "nodes") .nil)) (.c (.int 1))) .nil))))))
  .nil) }
def F_parent_of : Fn := { np := 2, nl := 2, body :=
  (.cons (.rtn (.ix (.ix (.fld (.v 0) "nodes") (.v 1)) (.c (.int 1))))
  .nil) }
def F_inner_by : Fn := { np := 1, nl := 3, body :=
  (.cons (.asg (.name 1) (.comp false [("k", 2)] (.name 2) (.rng (.cons (.bi .len (.cons (.fld (.v 0) "nodes") .nil)) .nil)) .nil (.call "parent_of" (.cons (.v 0) (.cons (.v 2) .nil)))))
  (.cons (.rtn (.bi .tuple (.cons (.comp false [("k", 2)] (.name 2) (.rng (.cons (.bi .len (.cons (.fld (.v 0) "nodes") .nil)) .nil)) (.cons (.cmp .In (.v 2) (.v 1)) .nil) (.v 2)) .nil)))
  .nil)) }
def F_leaves_by : Fn := { np := 1, nl := 3, body :=
  (.cons (.asg (.name 1) (.call "inner_by" (.cons (.v 0) .nil)))
  (.cons (.rtn (.bi .tuple (.cons (.comp false [("k", 2)] (.name 2) (.rng (.cons (.bi .len (.cons (.fld (.v 0) "nodes") .nil)) .nil)) (.cons (.cmp .NotIn (.v 2) (.v 1)) .nil) (.v 2)) .nil)))
  .nil)) }
def F_path_by : Fn := { np := 2, nl := 3, body :=
  (.cons (.asg (.name 2) (.lst true (.cons (.v 1) .nil)))
  (.cons (.whl (.cmp .IsNot (.call "parent_of" (.cons (.v 0) (.cons (.ix (.v 2) (.c (.int 0))) .nil))) (.c .non)) (.cons (.exp (.met (.v 2) .insert (.cons (.c (.int 0)) (.cons (.call "parent_of" (.cons (.v 0) (.cons (.ix (.v 2) (.c (.int 0))) .nil))) .nil))))
  .nil))
  (.cons (.rtn (.bi .tuple (.cons (.v 2) .nil)))
  .nil))) }
structure Tre (G : Gl) : Prop where
  is_whole : G.fn "is_whole" = some F_is_whole
  need_between : G.fn "need_between" = some F_need_between
  need_model : G.fn "need_model" = some F_need_model
  need_node : G.fn "need_node" = some F_need_node
  parent_of : G.fn "parent_of" = some F_parent_of
  inner_by : G.fn "inner_by" = some F_inner_by
  leaves_by : G.fn "leaves_by" = some F_leaves_by
  path_by : G.fn "path_by" = some F_path_by
  isa : G.isa "Model" "Model" = some true
  xU : G.exs "Unlike" = some [("what" : Str)]
  xN : G.exs "BadNumber" = some [("what" : Str), "number"]
def F_children_by : Fn := { np := 2, nl := 3, body :=
  (.cons (.rtn (.bi .tuple (.cons (.comp false [("k", 2)] (.name 2) (.rng (.cons (.bi .len (.cons (.fld (.v 0) "nodes") .nil)) .nil)) (.cons (.cmp .Eq (.call "parent_of" (.cons (.v 0) (.cons (.v 2) .nil))) (.v 1)) .nil) (.v 2)) .nil)))
  .nil) }
def F_children : Fn := { np := 2, nl := 2, body :=
  (.cons (.exp (.call "need_model" (.cons (.v 0) .nil)))
  (.cons (.exp (.call "need_node" (.cons (.v 0) (.cons (.v 1) .nil))))
  (.cons (.rtn (.call "children_by" (.cons (.v 0) (.cons (.v 1) .nil))))
  .nil))) }
def F_leaves : Fn := { np := 1, nl := 1, body :=
  (.cons (.exp (.call "need_model" (.cons (.v 0) .nil)))
  (.cons (.rtn (.call "leaves_by" (.cons (.v 0) .nil)))
  .nil)) }
def F_inner_nodes : Fn := { np := 1, nl := 1, body :=
  (.cons (.exp (.call "need_model" (.cons (.v 0) .nil)))
  (.cons (.rtn (.call "inner_by" (.cons (.v 0) .nil)))
  .nil)) }
def F_path : Fn := { np := 2, nl := 2, body :=
  (.cons (.exp (.call "need_model" (.cons (.v 0) .nil)))
  (.cons (.exp (.call "need_node" (.cons (.v 0) (.cons (.v 1) .nil))))
  (.cons (.rtn (.call "path_by" (.cons (.v 0) (.cons (.v 1) .nil))))
  .nil))) }
def F_beyond : Fn := { np := 2, nl := 3, body :=
  (.cons (.exp (.call "need_model" (.cons (.v 0) .nil)))
  (.cons (.exp (.call "need_node" (.cons (.v 0) (.cons (.v 1) .nil))))
  (.cons (.rtn (.bi .tuple (.cons (.comp false [("k", 2)] (.name 2) (.rng (.cons (.bi .len (.cons (.fld (.v 0) "nodes") .nil)) .nil)) (.cons (.cmp .In (.v 1) (.call "path_by" (.cons (.v 0) (.cons (.v 2) .nil)))) .nil) (.v 2)) .nil)))
  .nil))) }
def F__law_way : Fn := { np := 2, nl := 4, body :=
  (.cons (.asg (.name 2) (.lst false (.cons (.v 1) .nil)))
  (.cons (.for_ (.name 3) (.rng (.cons (.bi .len (.cons (.v 0) .nil)) .nil)) (.cons (.ite (.cmp .IsNot (.ix (.ix (.v 0) (.ix (.v 2) (.c (.int 0)))) (.c (.int 1))) (.c .non)) (.cons (.asg (.name 2) (.bin .Add (.lst false (.cons (.ix (.ix (.v 0) (.ix (.v 2) (.c (.int 0)))) (.c (.int 1))) .nil)) (.v 2)))
  .nil) .nil)
  .nil))
  (.cons (.rtn (.v 2))
  .nil))) }
def F__law_flat : Fn := { np := 1, nl := 3, body :=
  (.cons (.asg (.name 1) (.tup .nil))
  (.cons (.for_ (.name 2) (.seq (.v 0)) (.cons (.asg (.name 1) (.bin .Add (.v 1) (.bi .tuple (.cons (.v 2) .nil))))
  .nil))
  (.cons (.rtn (.v 1))
  .nil))) }
structure Chi (G : Gl) : Prop where
  children_by : G.fn "children_by" = some F_children_by
  children : G.fn "children" = some F_children
  leaves : G.fn "leaves" = some F_leaves
  inner_nodes : G.fn "inner_nodes" = some F_inner_nodes
  path : G.fn "path" = some F_path
  beyond : G.fn "beyond" = some F_beyond
  _law_way : G.fn "_law_way" = some F__law_way
  _law_flat : G.fn "_law_flat" = some F__law_flat
end Kin
end
section
set_option linter.all false
set_option maxRecDepth 100000
set_option maxHeartbeats 1000003
namespace Kin
open PySem Ev
variable {G : Gl}
def gz (a b : Int) : Int := if 0 < b then (Int.gcd a b : Int) else -(Int.gcd a b : Int)
def lowD (a b : Int) : D := .tup [.int (a.fdiv (gz a b)), .int (b.fdiv (gz a b))]
theorem gz_ne {a b : Int} (h : b ≠ 0) : gz a b ≠ 0 := by
  have : Int.gcd a b ≠ 0 := fun z => h (Int.gcd_eq_zero_iff.mp z).2
  unfold gz
  split <;> omega
theorem gz_abs {a b : Int} (h : b ≠ 0) : (gz a b).natAbs ≤ b.natAbs := by
  have hd : Int.gcd a b ∣ b.natAbs := by
    have := Int.gcd_dvd_right a b
    exact Int.ofNat_dvd_left.mp this
  have := Nat.le_of_dvd (by omega) hd
  unfold gz
  split <;> omega
theorem szI_le {a b : Int} (h : a.natAbs ≤ b.natAbs) (hb : szI b = true) : szI a = true := by
  unfold szI at *
  have hb := of_decide_eq_true hb
  refine decide_eq_true (Nat.lt_of_le_of_lt ?_ hb)
  by_cases ha : a.natAbs = 0
  · rw [ha]; simp
  · exact (Nat.le_log2 (by omega)).mpr (Nat.le_trans (Nat.log2_self_le ha) h)
theorem szI_lt {a : Int} {k : Nat} (h : a.natAbs < 2 ^ k) (hk : k ≤ 9000) : szI a = true := by
  unfold szI
  refine decide_eq_true ?_
  by_cases ha : a.natAbs = 0
  · rw [ha]; simp; 
  · exact Nat.lt_of_lt_of_le ((Nat.log2_lt ha).mpr h) hk
theorem fdiv_int {a b : Int} (h : b ≠ 0) (hz : szI b = true) (s : Sto) : binD .FloorDiv (.int a) (.int b) s = .ok (.int (a.fdiv b)) s := by
  have e : binO .FloorDiv (.int a) (.int b) = some (.int (a.fdiv b)) := by
    show (if decide (b ≠ 0) && szI b then some (D.int (a.fdiv b)) else none) = _
    rw [hz, decide_eq_true h]
    rfl
  show opD (binO .FloorDiv (.int a) (.int b)) s = _
  rw [e]
  rfl
theorem mul_int {a b : Int} (h : szI a = true) (hz : szI b = true) (s : Sto) : binD .Mult (.int a) (.int b) s = .ok (.int (a * b)) s := by
  have e : binO .Mult (.int a) (.int b) = some (.int (a * b)) := by
    show (if mulOk a b then some (D.int (a * b)) else none) = _
    unfold mulOk
    rw [h, hz]
    rfl
  show opD (binO .Mult (.int a) (.int b)) s = _
  rw [e]
  rfl
theorem log_half {y r : Nat} (h : 0 < r) (hr : r ≤ y / 2) : r.log2 + 1 ≤ y.log2 := by
  have h1 : 2 ^ r.log2 ≤ r := Nat.log2_self_le (by omega)
  have h2 : 2 ^ (r.log2 + 1) ≤ y := by rw [Nat.pow_succ]; omega
  exact (Nat.le_log2 (by omega)).mpr h2
def szN (y : Nat) : Nat := if y = 0 then 0 else y.log2 + 1
theorem szN_step {x y : Nat} (hy : 0 < y) (hr : 0 < x % y) : szN (y % (x % y)) + 1 ≤ szN y := by
  have h1 : x % y < y := Nat.mod_lt _ hy
  have h2 : y % (x % y) < x % y := Nat.mod_lt _ hr
  unfold szN
  rw [if_neg (by omega : ¬ y = 0)]
  by_cases h : y % (x % y) = 0
  · rw [if_pos h]; omega
  · rw [if_neg h]
    have h3 : y % (x % y) ≤ y / 2 := by
      have := Nat.div_add_mod y (x % y)
      have h4 : 1 ≤ y / (x % y) := Nat.div_pos (Nat.le_of_lt h1) hr
      have h5 : (x % y) * 1 ≤ (x % y) * (y / (x % y)) := Nat.mul_le_mul_left _ h4
      omega
    have := log_half (Nat.pos_of_ne_zero h) h3
    omega
def gcdB : Ss := .cons (.ite (.cmp .Eq (.v 1) (.c (.int 0))) (.cons .brk .nil) .nil) (.cons (.par [0, 1] (.cons (.v 1) (.cons (.bin .Mod (.bi .int (.cons (.v 0) .nil)) (.v 1)) .nil))) .nil)
theorem gcd_turn0 (k : Nat) (l : Int) (x : Int) (o : Option D) (s : Sto) : forT (cxK G k) (.name 2) gcdB (.int l) [some (.int x), some (.int 0), o] s = .ok (.bk [some (.int x), some (.int 0), some (.int l)]) s := rfl
theorem gcd_turn (k : Nat) (l : Int) (x y : Nat) (o : Option D) (s : Sto) (hy : 0 < y) : forT (cxK G k) (.name 2) gcdB (.int l) [some (.int x), some (.int y), o] s = .ok (.nx [some (.int y), some (.int ((x % y : Nat) : Int)), some (.int l)]) s := by
  show evSs (cxK G k) gcdB [some (.int x), some (.int y), some (.int l)] s = _
  have hc : cmpD .Eq (.int (y : Int)) (.int 0) s = .ok false s := by
    show opB (eqS (.int (y : Int)) (.int 0)) s = _
    have : eqS (.int (y : Int)) (.int 0) = some false := by
      show (if true then some (PyData.eqv (.int (y : Int)) (.int 0)) else none) = some false
      simp [PyData.eqv]
      omega
    rw [this]
    rfl
  have hm : binD .Mod (.int (x : Int)) (.int (y : Int)) s = .ok (.int ((x % y : Nat) : Int)) s := by
    have : binO .Mod (.int (x : Int)) (.int (y : Int)) = some (.int ((x % y : Nat) : Int)) := by
      show (if decide (0 < (y : Int)) then some (D.int ((x : Int) % (y : Int))) else none) = _
      rw [decide_eq_true (by omega)]
      simp
    show opD (binO .Mod (.int (x : Int)) (.int (y : Int))) s = _
    rw [this]
    rfl
  exact r_by (tt_cmp rfl rfl hc) (r_par (r_esc rfl (r_es1 (r_bin rfl rfl hm))) rfl rfl)
theorem gcd_loop (k : Nat) (s : Sto) : ∀ (ls : List Int) (x y : Nat) (o : Option D), 2 * szN y ≤ ls.length → ∃ y' o', loopF (forT (cxK G k) (.name 2) gcdB) (ls.map .int) [some (.int x), some (.int y), o] s = .ok (.nx [some (.int (Nat.gcd x y : Nat)), y', o']) s
  | [], x, y, o, h => by
    have : y = 0 := by
      unfold szN at h
      split at h
      · assumption
      · simp at h
    subst this
    exact ⟨_, _, by rw [Nat.gcd_zero_right]; rfl⟩
  | l :: ls, x, 0, o, h => ⟨_, _, by rw [Nat.gcd_zero_right]; exact loopF_bk (gcd_turn0 k l x o s)⟩
  | [l], x, y + 1, o, h => by
    unfold szN at h
    rw [if_neg (by omega)] at h
    simp at h
    omega
  | l :: l2 :: ls, x, y + 1, o, h => by
    by_cases hr : x % (y + 1) = 0
    · have : Nat.gcd x (y + 1) = y + 1 := Nat.gcd_eq_right (Nat.dvd_of_mod_eq_zero hr)
      rw [this]
      refine ⟨some (.int 0), some (.int l2), loopF_nx (gcd_turn k l x (y + 1) o s (by omega)) ?_⟩
      rw [hr]
      exact loopF_bk (gcd_turn0 k l2 (y + 1 : Nat) _ s)
    · obtain ⟨y', o', hl⟩ := gcd_loop k s ls (x % (y + 1)) ((y + 1) % (x % (y + 1))) (some (.int l2)) (by
        have := szN_step (x := x) (y := y + 1) (by omega) (by omega)
        simp at h
        omega)
      refine ⟨y', o', loopF_nx (gcd_turn k l x (y + 1) o s (by omega)) (loopF_nx (gcd_turn k l2 (y + 1) (x % (y + 1)) _ s (by omega)) ?_)⟩
      have e : Nat.gcd (x % (y + 1)) ((y + 1) % (x % (y + 1))) = Nat.gcd x (y + 1) := by
        rw [Nat.gcd_comm, ← Nat.gcd_rec, ← Nat.gcd_rec, Nat.gcd_comm]
      rw [← e]
      exact hl
theorem abs_ok (a : Int) (s : Sto) : biD .abs [.int a] s = .ok (.int (a.natAbs : Nat)) s := by
  show opD (some (D.int (if a < 0 then -a else a))) s = _
  have : (if a < 0 then -a else a) = (a.natAbs : Int) := by split <;> omega
  rw [this]
  rfl
theorem bits_ok (y : Nat) (s : Sto) (X : Cx') (e : En) (h : e[1]? = some (some (.int (y : Int)))) : evE X (.met (.bi .int (.cons (.v 1) .nil)) .bits .nil) e s = .ok (.int (szN y : Nat)) s := by
  have h1 : evE X (.bi .int (.cons (.v 1) .nil)) e s = .ok (.int (y : Int)) s := r_bi (r_es1 (by
    show (match e[1]? with | some (some d) => Ev.ret d | _ => Ev.no) s = _
    rw [h]
    rfl)) rfl
  show bnd (evE X (.bi .int (.cons (.v 1) .nil)) e) _ s = _
  rw [bnd_ok h1]
  show Ev.ret (D.int ((if (y : Int) = 0 then 0 else (y : Int).natAbs.log2 + 1 : Nat) : Int)) s = _
  have : (if (y : Int) = 0 then 0 else (y : Int).natAbs.log2 + 1) = szN y := by
    unfold szN
    by_cases hy : y = 0
    · rw [if_pos hy, if_pos (by omega)]
    · rw [if_neg hy, if_neg (by omega)]
      rfl
  rw [this]
  rfl
theorem gcd_ok (K : Base G) (k : Nat) (a b : Int) (s : Sto) (hz : szI b = true) : (orcAt G (k+1)).fn "_law_gcd" [.int a, .int b] s = .ok (.int (Int.gcd a b : Nat)) s := by
  have hsz : szN b.natAbs ≤ 9000 := by
    unfold szI at hz
    have := of_decide_eq_true hz
    unfold szN
    split <;> omega
  obtain ⟨y', o', hl⟩ := gcd_loop k s ((List.range (4 + 2 * szN b.natAbs)).map fun (i : Nat) => (i : Int)) a.natAbs b.natAbs none (by simp)
  refine call_rt K._law_gcd rfl rfl rfl rfl (r_par (e' := [some (.int (a.natAbs : Nat)), some (.int (b.natAbs : Nat)), none]) (r_esc (r_bi rfl (abs_ok _ _)) (r_es1 (r_bi rfl (abs_ok _ _)))) rfl (r_for ?_ hl (r_rtn rfl)))
  have h1 : evE (cxK G k) (.bin .Add (.c (.int 4)) (.bin .Mult (.c (.int 2)) (.met (.bi .int (.cons (.v 1) .nil)) .bits .nil))) [some (.int (a.natAbs : Nat)), some (.int (b.natAbs : Nat)), none] s = .ok (.int (4 + 2 * (szN b.natAbs : Nat))) s :=
    r_bin rfl (r_bin rfl (bits_ok _ _ _ _ rfl) (mul_int rfl (szI_lt (k := 20) (by omega) (by omega)) _)) rfl
  show bnd (evEs (cxK G k) (.cons _ .nil) _) _ s = _
  rw [bnd_ok (r_es1 h1)]
  have h2 : rngD [.int (4 + 2 * (szN b.natAbs : Nat))] = some (((List.range (4 + 2 * szN b.natAbs)).map fun (i : Nat) => (i : Int)).map .int) := by
    show (if smI (4 + 2 * (szN b.natAbs : Nat)) then _ else none) = _
    have : smI (4 + 2 * (szN b.natAbs : Nat)) = true := by
      unfold smI
      rw [decide_eq_true (by omega), decide_eq_true (by omega)]
      rfl
    rw [this, if_pos rfl, List.map_map]
    have e : (4 + 2 * ((szN b.natAbs : Nat) : Int)).toNat = 4 + 2 * szN b.natAbs := by omega
    rw [e]
    rfl
  rw [h2]
  rfl
theorem q_ok (K : Base G) (k : Nat) (a b : Int) (s : Sto) (h : b ≠ 0) (hz : szI b = true) : (orcAt G (k+2)).fn "_law_q" [.int a, .int b] s = .ok (lowD a b) s := by
  refine call_rt K._law_q rfl rfl rfl rfl (r_set (r_call rfl (gcd_ok K _ _ _ _ hz)) (r_set (d := .int (gz a b)) (r_ife (q := decide (b < 0)) rfl ?_) (r_rtn (r_tup (r_esc (r_bin rfl rfl (fdiv_int (gz_ne h) (szI_le (gz_abs h) hz) _)) (r_es1 (r_bin rfl rfl (fdiv_int (gz_ne h) (szI_le (gz_abs h) hz) _)))) rfl))))
  unfold gz
  by_cases hb : 0 < b
  · rw [decide_eq_false (by omega), if_pos hb]
    rfl
  · rw [decide_eq_true (by omega), if_neg hb]
    exact r_neg rfl
def penK : List Ky := [.inr "cells", .inr "at", .inr "digits", .inr "count", .inr "fold"]
structure PnT where
  cells : List Int
  at_ : Int
  dg : Int
  ct : Int
  fo : Int
def PnT.mo (p : PnT) : MO := .dct penK [.lst (p.cells.map .int), .int p.at_, .int p.dg, .int p.ct, .int p.fo]
structure PnT.Ok (p : PnT) (n : Nat) : Prop where
  a : 0 ≤ p.at_
  d : 0 ≤ p.dg
  c : 0 ≤ p.ct
  cn : p.ct ≤ n
  f : 0 ≤ p.fo
  fl : p.fo < 2147483648
theorem cell_at (cells : List Int) (i : Int) (h0 : 0 ≤ i) (h1 : i < cells.length) : getO (.lst (cells.map .int)) (.int i) = some (.int (cells[i.toNat]'(by omega))) := by
  show atI (cells.map .int) i = _
  unfold atI ixN
  rw [if_pos h0, List.length_map, if_pos h1]
  show (cells.map D.int)[i.toNat]? = _
  rw [List.getElem?_map, List.getElem?_eq_getElem (by omega)]
  rfl
def DrawTo (R0 : R Fl) (m : Int) (n : Nat) (t : Sto) : Prop := ∃ r p', R0 = .ok (.rt (.int r)) (PnT.mo p' :: t) ∧ 0 ≤ r ∧ r < m ∧ p'.Ok n
def drawT1 : Ss := .cons (.asg (.name 4) (.bin .Add (.bin .Add (.ix (.v 0) (.c (.str "fold"))) (.bin .Mult (.ix (.v 0) (.c (.str "count"))) (.c (.int 6311)))) (.c (.int 181)))) (.cons (.rtn (.bin .Mod (.bin .FloorDiv (.bi .int (.cons (.bin .Mod (.bin .Pow (.v 4) (.c (.int 55))) (.c (.int 2305843009213693951))) .nil)) (.c (.int 1024))) (.v 1))) .nil)
def drawT0 : Ss := .cons (.ite (.cmp .Gt (.ix (.v 0) (.c (.str "digits"))) (.c (.int 0))) (.cons (.asg (.name 3) (.bin .Mod (.bi .int (.cons (.ix (.v 0) (.c (.str "digits"))) .nil)) (.v 1))) (.cons (.asg (.ix (.v 0) (.c (.str "digits"))) (.bin .FloorDiv (.ix (.v 0) (.c (.str "digits"))) (.v 1))) (.cons (.rtn (.v 3)) .nil))) .nil) drawT1
theorem mod_int {a b : Int} (h : 0 < b) (s : Sto) : binD .Mod (.int a) (.int b) s = .ok (.int (a % b)) s := by
  show opD (if decide (0 < b) then some (D.int (a % b)) else none) s = _
  rw [decide_eq_true h]
  rfl
theorem pow_int {a : Int} (ha : a.natAbs < 2 ^ 64) (s : Sto) : binD .Pow (.int a) (.int 55) s = .ok (.int (a ^ 55)) s := by
  show opD (if decide (0 ≤ (55 : Int)) && decide ((55 : Int) ≤ 1000000) && decide (a.natAbs < 2 ^ 64) then some (D.int (a ^ (55 : Int).toNat)) else none) s = _
  rw [decide_eq_true ha]
  rfl
theorem draw1 (k : Nat) (p : PnT) (m : Int) (n : Nat) (t : Sto) (o2 o3 : Option D) (hp : p.Ok n) (hn : n < 1099511627776) (hm : 0 < m) : DrawTo (evSs (cxK G k) drawT1 [some (.mu 0), some (.int m), o2, o3, none] (PnT.mo p :: t)) m n t := by
  have hb : (p.fo + p.ct * 6311 + 181).natAbs < 2 ^ 64 := by
    have := hp.c
    have := hp.cn
    have := hp.f
    have := hp.fl
    omega
  refine ⟨((p.fo + p.ct * 6311 + 181) ^ 55 % 2305843009213693951).fdiv 1024 % m, p, ?_, Int.emod_nonneg _ (by omega), Int.emod_lt_of_pos _ hm, hp⟩
  refine r_set (d := .int (p.fo + p.ct * 6311 + 181)) (r_bin (r_bin rfl (r_bin rfl rfl (mul_int (szI_lt (k := 64) (by have := hp.c; have := hp.cn; omega) (by omega)) rfl _)) rfl) rfl rfl) (r_rtn (r_bin (r_bin (r_bi (r_es1 (r_bin (r_bin rfl rfl (pow_int hb _)) rfl (mod_int (by decide) _))) rfl) rfl (fdiv_int (by decide) rfl _)) rfl (mod_int hm _)))
theorem draw0 (k : Nat) (p : PnT) (m : Int) (n : Nat) (t : Sto) (o2 : Option D) (hp : p.Ok n) (hn : n < 1099511627776) (hm : 0 < m) (hz : szI m = true) : DrawTo (evSs (cxK G k) drawT0 [some (.mu 0), some (.int m), o2, none, none] (PnT.mo p :: t)) m n t := by
  by_cases hd : 0 < p.dg
  · refine ⟨p.dg % m, { p with dg := p.dg.fdiv m }, ?_, Int.emod_nonneg _ (by omega), Int.emod_lt_of_pos _ hm, ⟨hp.a, ?_, hp.c, hp.cn, hp.f, hp.fl⟩⟩
    · refine r_in (tt_cmp (q := true) (s3 := PnT.mo p :: t) rfl rfl ?_) (r_set (r_bin (r_bi (r_es1 rfl) rfl) rfl (mod_int hm _)) (r_asg (r_bin rfl rfl (fdiv_int (by omega) hz _)) rfl (r_rtn rfl)))
      · show opB (some (decide (0 < p.dg))) _ = _
        rw [decide_eq_true hd]
        rfl
    · show 0 ≤ p.dg.fdiv m
      exact Int.fdiv_nonneg (by omega) (by omega)
  · have h0 : cmpD .Gt (.int p.dg) (.int 0) (PnT.mo p :: t) = .ok false (PnT.mo p :: t) := by
      show opB (some (decide (0 < p.dg))) _ = _
      rw [decide_eq_false hd]
      rfl
    obtain ⟨r, p', h1, h2⟩ := draw1 k p m n t o2 none hp hn hm
    exact ⟨r, p', r_by (tt_cmp rfl rfl h0) h1, h2⟩
theorem draw_ok (K : Base G) (k : Nat) (p : PnT) (m : Int) (n : Nat) (t : Sto) (hp : p.Ok n) (hn : n + 1 < 1099511627776) (hm : 0 < m) (hz : szI m = true) : ∃ r p', (orcAt G (k+1)).fn "_law_draw" [.mu 0, .int m] (PnT.mo p :: t) = .ok (.int r) (PnT.mo p' :: t) ∧ 0 ≤ r ∧ r < m ∧ p'.Ok (n + 1) := by
  have key : DrawTo (evSs (cxK G k) F__law_draw.body (env0 F__law_draw [.mu 0, .int m]) (PnT.mo p :: t)) m (n + 1) t := by
    have hp1 : PnT.Ok { p with ct := p.ct + 1 } (n + 1) := ⟨hp.a, hp.d, by have := hp.c; show 0 ≤ p.ct + 1; omega, by have := hp.cn; show p.ct + 1 ≤ ((n + 1 : Nat) : Int); omega, hp.f, hp.fl⟩
    have fin : ∀ {R0 : R Fl}, DrawTo R0 m (n + 1) t → evSs (cxK G k) F__law_draw.body (env0 F__law_draw [.mu 0, .int m]) (PnT.mo p :: t) = R0 → DrawTo (evSs (cxK G k) F__law_draw.body (env0 F__law_draw [.mu 0, .int m]) (PnT.mo p :: t)) m (n + 1) t := fun h e => by rw [e]; exact h
    by_cases hq : p.dg = 0 ∧ p.at_ < p.cells.length
    · obtain ⟨q1, q2⟩ := hq
      have hcell := cell_at p.cells p.at_ hp.a q2
      generalize hcv : p.cells[p.at_.toNat]'(by have := hp.a; omega) = cell at hcell
      have ht : evT (cxK G k) (.and (.cmp .Eq (.ix (.v 0) (.c (.str "digits"))) (.c (.int 0))) (.cmp .Lt (.ix (.v 0) (.c (.str "at"))) (.bi .len (.cons (.ix (.v 0) (.c (.str "cells"))) .nil)))) [some (.mu 0), some (.int m), none, none, none] (PnT.mo { p with ct := p.ct + 1 } :: t) = .ok true (PnT.mo { p with ct := p.ct + 1 } :: t) := by
        refine tt_and (q := true) (tt_cmp (s3 := PnT.mo { p with ct := p.ct + 1 } :: t) rfl rfl ?_) (tt_cmp rfl (r_bi (r_es1 rfl) rfl) ?_)
        · show opB (some (PyData.eqv (.int p.dg) (.int 0))) _ = _
          rw [q1]
          rfl
        · show opB (some (decide (p.at_ < ((p.cells.map D.int).length : Nat)))) _ = _
          rw [List.length_map, decide_eq_true q2]
          rfl
      have hget : evE (cxK G k) (.ix (.ix (.v 0) (.c (.str "cells"))) (.ix (.v 0) (.c (.str "at")))) [some (.mu 0), some (.int m), none, none, none] (PnT.mo { p with ct := p.ct + 1 } :: t) = .ok (.int cell) (PnT.mo { p with ct := p.ct + 1 } :: t) := by
        refine r_ix rfl rfl ?_
        show opD (getO (.lst (p.cells.map .int)) (.int p.at_)) _ = _
        rw [hcell]
        rfl
      by_cases hc : (10 : Int) ^ 18 ≤ cell
      · have hpz : PnT.Ok { p with ct := p.ct + 1, at_ := p.at_ + 1, dg := cell - 10 ^ 18 } (n + 1) := ⟨by have := hp.a; show 0 ≤ p.at_ + 1; omega, by show 0 ≤ cell - 10 ^ 18; omega, hp1.c, hp1.cn, hp.f, hp.fl⟩
        have hset : evSs (cxK G k) (.cons (.asg (.ix (.v 0) (.c (.str "digits"))) (.bin .Sub (.v 2) (.bin .Pow (.c (.int 10)) (.c (.int 18))))) .nil) [some (.mu 0), some (.int m), some (.int cell), none, none] (PnT.mo { p with ct := p.ct + 1, at_ := p.at_ + 1 } :: t) =
            .ok (.nx [some (.mu 0), some (.int m), some (.int cell), none, none]) (PnT.mo { p with ct := p.ct + 1, at_ := p.at_ + 1, dg := cell - 10 ^ 18 } :: t) := rfl
        refine fin (draw0 k _ m (n + 1) t (some (.int cell)) hpz hn hm hz) (r_cons rfl (r_cons (r_ite ht (r_set hget (r_cons rfl (r_cons (r_ite (q := true) (tt_cmp rfl rfl ?_) hset) rfl)))) rfl))
        show opB (some (decide ((10 : Int) ^ 18 ≤ cell))) _ = _
        rw [decide_eq_true hc]
        rfl
      · have hpz : PnT.Ok { p with ct := p.ct + 1, at_ := p.at_ + 1, fo := (p.fo * 30011 + cell) % 2147482921 } (n + 1) := ⟨by have := hp.a; show 0 ≤ p.at_ + 1; omega, hp.d, hp1.c, hp1.cn, Int.emod_nonneg _ (by omega), by
          have := Int.emod_lt_of_pos (p.fo * 30011 + cell) (b := 2147482921) (by omega)
          show (p.fo * 30011 + cell) % 2147482921 < 2147483648
          omega⟩
        have hset : evS (cxK G k) (.asg (.ix (.v 0) (.c (.str "fold"))) (.bin .Mod (.bi .int (.cons (.bin .Add (.bin .Mult (.ix (.v 0) (.c (.str "fold"))) (.c (.int 30011))) (.v 2)) .nil)) (.c (.int 2147482921)))) [some (.mu 0), some (.int m), some (.int cell), none, none] (PnT.mo { p with ct := p.ct + 1, at_ := p.at_ + 1 } :: t) =
            .ok (.nx [some (.mu 0), some (.int m), some (.int cell), none, none]) (PnT.mo { p with ct := p.ct + 1, at_ := p.at_ + 1, fo := (p.fo * 30011 + cell) % 2147482921 } :: t) := by
          have hv : evE (cxK G k) (.bin .Mod (.bi .int (.cons (.bin .Add (.bin .Mult (.ix (.v 0) (.c (.str "fold"))) (.c (.int 30011))) (.v 2)) .nil)) (.c (.int 2147482921))) [some (.mu 0), some (.int m), some (.int cell), none, none] (PnT.mo { p with ct := p.ct + 1, at_ := p.at_ + 1 } :: t) = .ok (.int ((p.fo * 30011 + cell) % 2147482921)) (PnT.mo { p with ct := p.ct + 1, at_ := p.at_ + 1 } :: t) :=
            r_bin (r_bi (r_es1 (r_bin (r_bin rfl rfl (mul_int (szI_lt (k := 32) (by have := hp.f; have := hp.fl; show p.fo.natAbs < 2 ^ 32; omega) (by omega)) rfl _)) rfl rfl)) rfl) rfl (mod_int (by decide) _)
          show bnd (evE (cxK G k) (.bin .Mod _ _) _) _ _ = _
          rw [bnd_ok hv]
          rfl
        refine fin (draw0 k _ m (n + 1) t (some (.int cell)) hpz hn hm hz) (r_cons rfl (r_cons (r_ite ht (r_set hget (r_cons rfl (r_cons (r_ite (q := false) (tt_cmp rfl rfl ?_) (r_cons hset rfl)) rfl)))) rfl))
        show opB (some (decide ((10 : Int) ^ 18 ≤ cell))) _ = _
        rw [decide_eq_false hc]
        rfl
    · have ht : evT (cxK G k) (.and (.cmp .Eq (.ix (.v 0) (.c (.str "digits"))) (.c (.int 0))) (.cmp .Lt (.ix (.v 0) (.c (.str "at"))) (.bi .len (.cons (.ix (.v 0) (.c (.str "cells"))) .nil)))) [some (.mu 0), some (.int m), none, none, none] (PnT.mo { p with ct := p.ct + 1 } :: t) = .ok false (PnT.mo { p with ct := p.ct + 1 } :: t) := by
        by_cases q1 : p.dg = 0
        · have q2 : ¬ p.at_ < p.cells.length := fun z => hq ⟨q1, z⟩
          refine tt_and (q := true) (tt_cmp (s3 := PnT.mo { p with ct := p.ct + 1 } :: t) rfl rfl ?_) (tt_cmp rfl (r_bi (r_es1 rfl) rfl) ?_)
          · show opB (some (PyData.eqv (.int p.dg) (.int 0))) _ = _
            rw [q1]
            rfl
          · show opB (some (decide (p.at_ < ((p.cells.map D.int).length : Nat)))) _ = _
            rw [List.length_map, decide_eq_false q2]
            rfl
        · refine tt_and (q := false) (tt_cmp rfl rfl ?_) rfl
          show opB (some (PyData.eqv (.int p.dg) (.int 0))) _ = _
          have : PyData.eqv (.int p.dg) (.int 0) = false := by simp [PyData.eqv, q1]
          rw [this]
          rfl
      exact fin (draw0 k _ m (n + 1) t none hp1 hn hm hz) (r_cons rfl (r_by ht rfl))
  obtain ⟨r, p', h1, h2, h3, h4⟩ := key
  exact ⟨r, p', call_rt K._law_draw rfl rfl rfl rfl h1, h2, h3, h4⟩
theorem PnT.Ok.mono {p : PnT} {n m : Nat} (h : p.Ok n) (hm : n ≤ m) : p.Ok m := ⟨h.a, h.d, h.c, by have := h.cn; omega, h.f, h.fl⟩
theorem mulB {a b : Int} {A B : Nat} (ha : a.natAbs ≤ A) (hb : b.natAbs ≤ B) : (a * b).natAbs ≤ A * B := by
  rw [Int.natAbs_mul]
  exact Nat.mul_le_mul ha hb
theorem fdiv_abs {a g : Int} (hg : g ≠ 0) (h : g ∣ a) : (a.fdiv g).natAbs ≤ a.natAbs := by
  obtain ⟨c, rfl⟩ := h
  rw [Int.mul_fdiv_cancel_left _ hg, Int.natAbs_mul]
  exact Nat.le_mul_of_pos_left _ (by omega)
theorem gz_dvd_l (a b : Int) : gz a b ∣ a := by
  unfold gz
  split
  · exact Int.gcd_dvd_left ..
  · exact Int.neg_dvd.mpr (Int.gcd_dvd_left ..)
theorem gz_dvd_r (a b : Int) : gz a b ∣ b := by
  unfold gz
  split
  · exact Int.gcd_dvd_right ..
  · exact Int.neg_dvd.mpr (Int.gcd_dvd_right ..)
theorem eq_int (i j : Int) (s : Sto) : cmpD .Eq (.int i) (.int j) s = .ok (decide (i = j)) s := by
  show opB (some (PyData.eqv (.int i) (.int j))) s = _
  have : PyData.eqv (.int i) (.int j) = decide (i = j) := by
    simp only [PyData.eqv]
    rfl
  rw [this]
  rfl
theorem ne_int (i j : Int) (s : Sto) : cmpD .NotEq (.int i) (.int j) s = .ok (!decide (i = j)) s := by
  show opB ((some (PyData.eqv (.int i) (.int j))).map (!·)) s = _
  have : PyData.eqv (.int i) (.int j) = decide (i = j) := by
    simp only [PyData.eqv]
    rfl
  rw [this]
  rfl
theorem ne_str (t : Str) (s : Sto) : cmpD .NotEq (.str t) (.str t) s = .ok false s := by
  show opB ((some (decide (t = t))).map (!·)) s = _
  rw [decide_eq_true rfl]
  rfl
end Kin
end
section
set_option linter.all false
set_option maxRecDepth 100000
set_option maxHeartbeats 1000003
namespace Kin
open PySem Ev
variable {G : Gl}
/-! ### rows two by two -/
inductive F2 {α β : Type} (P : α → β → Prop) : List α → List β → Prop where
  | nil : F2 P [] []
  | cons {a : α} {b : β} {as : List α} {bs : List β} : P a b → F2 P as bs → F2 P (a :: as) (b :: bs)
theorem F2.len {α β : Type} {P : α → β → Prop} {as : List α} {bs : List β} (h : F2 P as bs) : as.length = bs.length := by
  induction h with
  | nil => rfl
  | cons _ _ ih => simp [ih]
theorem F2.mono {α β : Type} {P R : α → β → Prop} {as : List α} {bs : List β} (h : F2 P as bs) (q : ∀ a b, P a b → R a b) : F2 R as bs := by
  induction h with
  | nil => exact .nil
  | cons h _ ih => exact .cons (q _ _ h) ih
theorem F2.right {α β : Type} {P : α → β → Prop} {R : β → Prop} {as : List α} {bs : List β} (h : F2 P as bs) (q : ∀ a b, P a b → R b) : ∀ b ∈ bs, R b := by
  induction h with
  | nil => intro b hb; cases hb
  | cons h _ ih =>
    intro b hb
    cases hb with
    | head => exact q _ _ h
    | tail _ hb => exact ih b hb
theorem loopC_m {ι ο : Type} {f : D → M (Option D)} {Q : List D → Sto → Prop} (g : ι → D) (h : ο → D) (P : ι → ο → Prop) (I : Nat → Sto → Prop) : ∀ {is : List ι} {i : Nat} {s : Sto}, I i s → (∀ j a s, is[j]? = some a → I (i + j) s → Wp (f (g a) s) fun o s' => ∃ b, o = some (h b) ∧ P a b ∧ I (i + j + 1) s') → (∀ os s, F2 P is os → I (i + is.length) s → Q (os.map h) s) → Wp (loopC f (is.map g) s) Q
  | [], i, s, hi, _, q => w_ok (q [] s .nil hi)
  | x :: xs, i, s, hi, hs, q => by
    obtain ⟨o, s1, e1, y, rfl, hp, h1⟩ := hs 0 x s rfl hi
    show Wp (bnd (f (g x)) _ s) Q
    refine w_bnd (w_rfl e1 ?_)
    refine w_bnd (loopC_m g h P I (is := xs) (i := i + 1) h1 ?_ ?_)
    · intro j y s hj hi
      have := hs (j + 1) y s (by simpa using hj) (by rw [← Nat.add_assoc, Nat.add_right_comm]; exact hi)
      rw [show i + 1 + j + 1 = i + (j + 1) + 1 by omega]
      exact this
    · intro os s hf hi
      exact w_ok (q (y :: os) s (.cons hp hf) (by rw [List.length_cons, show i + (xs.length + 1) = i + 1 + xs.length by omega]; exact hi))
/-! ### ratios -/
def qD (q : Rat) : D := .tup [.int q.num, .int (q.den : Int)]
theorem lowD_q {a b : Int} (h : b ≠ 0) : lowD a b = qD (Rat.divInt a b) := by
  have pos : ∀ (a : Int) (n : Nat), n ≠ 0 → lowD a n = qD (Rat.divInt a n) := by
    intro a n hn
    have hg : gz a n = (Int.gcd a n : Int) := by
      unfold gz
      rw [if_pos (by omega)]
    unfold lowD qD
    rw [hg, Rat.divInt_ofNat, mkRat, dif_neg hn, Rat.normalize_eq, Int.fdiv_eq_ediv_of_nonneg _ (by omega), Int.fdiv_eq_ediv_of_nonneg _ (by omega)]
    show _ = D.tup [.int (a / ((a.natAbs.gcd n : Nat) : Int)), .int ((n / (a.natAbs.gcd n) : Nat) : Int)]
    rw [Int.natCast_ediv]
    rfl
  by_cases hb : 0 < b
  · obtain ⟨n, rfl⟩ : ∃ n : Nat, b = n := ⟨b.toNat, by omega⟩
    exact pos a n (by omega)
  · obtain ⟨n, rfl⟩ : ∃ n : Nat, b = -(n : Int) := ⟨b.natAbs, by omega⟩
    have := pos (-a) n (by omega)
    rw [← Rat.neg_divInt_neg, Int.neg_neg, ← this]
    have e1 : gz a (-(n : Int)) = -(Int.gcd a n : Int) := by
      unfold gz
      rw [if_neg (by omega), Int.gcd_neg]
    have e2 : gz (-a) n = (Int.gcd a n : Int) := by
      unfold gz
      rw [if_pos (by omega), Int.neg_gcd]
    unfold lowD
    rw [e1, e2]
    have f : ∀ x y : Int, x.fdiv (-y) = (-x).fdiv y := by
      intro x y
      have := Int.neg_fdiv_neg (-x) y
      rw [Int.neg_neg] at this
      exact this
    rw [f, f, Int.neg_neg]
/-- at most so many bits -/
structure RB (L : Nat) (q : Rat) : Prop where
  n : q.num.natAbs < 2 ^ L
  d : q.den < 2 ^ L
theorem RB.mono {L M : Nat} {q : Rat} (h : RB L q) (hm : L ≤ M) : RB M q :=
  ⟨Nat.lt_of_lt_of_le h.n (Nat.pow_le_pow_right (by omega) hm), Nat.lt_of_lt_of_le h.d (Nat.pow_le_pow_right (by omega) hm)⟩
theorem RB.zn {L : Nat} {q : Rat} (h : RB L q) (hl : L ≤ 9000) : szI q.num = true := szI_lt h.n hl
theorem RB.zd {L : Nat} {q : Rat} (h : RB L q) (hl : L ≤ 9000) : szI (q.den : Int) = true := szI_lt (by have := h.d; omega) hl
theorem RB.div {L : Nat} {a b : Int} (h : b ≠ 0) (ha : a.natAbs < 2 ^ L) (hb : b.natAbs < 2 ^ L) : RB L (Rat.divInt a b) := by
  have e := lowD_q (a := a) h
  unfold lowD qD at e
  injection e with e
  injection e with e1 e
  injection e with e2 _
  injection e1 with e1
  injection e2 with e2
  refine ⟨?_, ?_⟩
  · rw [← e1]
    exact Nat.lt_of_le_of_lt (fdiv_abs (gz_ne h) (gz_dvd_l a b)) ha
  · have : ((Rat.divInt a b).den : Int).natAbs < 2 ^ L := by
      rw [← e2]
      exact Nat.lt_of_le_of_lt (fdiv_abs (gz_ne h) (gz_dvd_r a b)) hb
    omega
theorem mulP {a b : Int} {L M : Nat} (ha : a.natAbs < 2 ^ L) (hb : b.natAbs < 2 ^ M) : (a * b).natAbs < 2 ^ (L + M) := by
  rw [Int.natAbs_mul, Nat.pow_add]
  exact Nat.mul_lt_mul'' ha hb
theorem RB.dz {L : Nat} {q : Rat} (h : RB L q) : (q.den : Int).natAbs < 2 ^ L := by
  have := h.d
  omega
theorem den_ne (q : Rat) : (q.den : Int) ≠ 0 := by
  have := q.den_pos
  omega
theorem dens_ne (x y : Rat) : (x.den : Int) * (y.den : Int) ≠ 0 := Int.mul_ne_zero (den_ne x) (den_ne y)
theorem mul_div (x y : Rat) : Rat.divInt (x.num * y.num) (x.den * y.den) = x * y := by
  rw [← Rat.divInt_mul_divInt, Rat.num_divInt_den, Rat.num_divInt_den]
theorem add_div (x y : Rat) : Rat.divInt (x.num * y.den + y.num * x.den) (x.den * y.den) = x + y := by
  rw [← Rat.divInt_add_divInt _ _ (den_ne x) (den_ne y), Rat.num_divInt_den, Rat.num_divInt_den]
theorem sub_div (x y : Rat) : Rat.divInt (x.num * y.den - y.num * x.den) (x.den * y.den) = x - y := by
  rw [← Rat.divInt_sub_divInt _ _ (den_ne x) (den_ne y), Rat.num_divInt_den, Rat.num_divInt_den]
theorem RB.mul {L M : Nat} {x y : Rat} (hx : RB L x) (hy : RB M y) : RB (L + M) (x * y) := by
  rw [← mul_div]
  exact RB.div (dens_ne x y) (mulP hx.n hy.n) (mulP hx.dz hy.dz)
theorem RB.add {L M : Nat} {x y : Rat} (hx : RB L x) (hy : RB M y) : RB (L + M + 1) (x + y) := by
  rw [← add_div]
  have h1 := mulP hx.n hy.dz
  have h2 := mulP hy.n hx.dz
  have h3 := mulP hx.dz hy.dz
  rw [Nat.add_comm M L] at h2
  refine RB.div (dens_ne x y) ?_ ?_ <;> rw [Nat.pow_succ] <;> omega
theorem RB.sub {L M : Nat} {x y : Rat} (hx : RB L x) (hy : RB M y) : RB (L + M + 1) (x - y) := by
  rw [← sub_div]
  have h1 := mulP hx.n hy.dz
  have h2 := mulP hy.n hx.dz
  have h3 := mulP hx.dz hy.dz
  rw [Nat.add_comm M L] at h2
  refine RB.div (dens_ne x y) ?_ ?_ <;> rw [Nat.pow_succ] <;> omega
theorem qq_ok (K : Base G) (k : Nat) (a b : Int) (s : Sto) (h : b ≠ 0) (hz : szI b = true) : (orcAt G (k+2)).fn "_law_q" [.int a, .int b] s = .ok (qD (Rat.divInt a b)) s := by
  rw [← lowD_q h]
  exact q_ok K k a b s h hz
theorem qtimes_ok (K : Base G) {k : Nat} {x y : Rat} {L M : Nat} {s : Sto} (hx : RB L x) (hy : RB M y) (hl : L + M ≤ 9000) : (orcAt G (k+3)).fn "_law_times" [qD x, qD y] s = .ok (qD (x * y)) s := by
  have := qq_ok K k (x.num * y.num) (x.den * y.den) s (dens_ne x y) (szI_lt (mulP hx.dz hy.dz) hl)
  rw [mul_div] at this
  exact call_rt K._law_times rfl rfl rfl rfl (r_rtn (r_call (r_esc (r_bin rfl rfl (mul_int (hx.zn (by omega)) (hy.zn (by omega)) _)) (r_es1 (r_bin rfl rfl (mul_int (hx.zd (by omega)) (hy.zd (by omega)) _)))) this))
theorem qD_plain (q : Rat) : plainD (qD q) = true := rfl
/-! ### draws -/
section
variable {k n : Nat} {p : PnT} {m : Int} {t : Sto} {Q : D → Sto → Prop}
theorem draw_w (K : Base G) (hp : p.Ok n) (hn : n + 1 < 1099511627776) (hm : 0 < m) (hz : szI m = true) (h : ∀ r p', 0 ≤ r → r < m → p'.Ok (n + 1) → Q (.int r) (PnT.mo p' :: t)) : Wp ((orcAt G (k+1)).fn "_law_draw" [.mu 0, .int m] (PnT.mo p :: t)) Q := by
  obtain ⟨r, p', e, h0, h1, o⟩ := draw_ok K k p m n t hp hn hm hz
  exact w_rfl e (h r p' h0 h1 o)
theorem pick_w (K : Base G) {xs : List D} (hp : p.Ok n) (hn : n + 1 < 1099511627776) (h0 : 0 < xs.length) (h1 : xs.length < 1000) (hx : xs.all plainD = true) (h : ∀ d ∈ xs, ∀ p', p'.Ok (n + 1) → Q d (PnT.mo p' :: t)) : Wp ((orcAt G (k+2)).fn "_law_pick" [.mu 0, .lst xs] (PnT.mo p :: t)) Q := by
  obtain ⟨r, p', e1, r0, r1, o1⟩ := draw_ok K k p xs.length n t hp hn (by omega) (szI_lt (k := 20) (by omega) (by omega))
  have hr : r.toNat < xs.length := by omega
  refine w_rfl (call_rt (d := xs[r.toNat]) (s' := PnT.mo p' :: t) K._law_pick rfl rfl rfl (List.all_eq_true.mp hx _ (List.getElem_mem hr)) (r_rtn (r_ix (s1 := PnT.mo p :: t) (s2 := PnT.mo p' :: t) (x := .lst xs) rfl (r_call (r_esc rfl (r_es1 (r_bi (r_es1 rfl) rfl))) e1) ?_))) (h _ (List.getElem_mem hr) p' o1)
  show opD (atI xs r) _ = _
  unfold atI ixN
  rw [if_pos r0, if_pos r1]
  show opD xs[r.toNat]? _ = _
  rw [List.getElem?_eq_getElem hr]
  rfl
theorem price_w (K : Base G) (hp : p.Ok n) (hn : n + 2 < 1099511627776) (h : ∀ a b p', 1 ≤ a → a ≤ 12 → 1 ≤ b → b ≤ 2 → p'.Ok (n + 2) → Q (.tup [.int a, .int b]) (PnT.mo p' :: t)) : Wp ((orcAt G (k+3)).fn "_law_price" [.mu 0] (PnT.mo p :: t)) Q := by
  refine fn_w K._law_price rfl rfl (w_rtn (w_tup (w_esc (w_bin (w_rfl rfl (w_call (w_rfl rfl (draw_w K hp (by omega) (by omega) rfl ?_))))))))
  intro r p1 h0 h1 o1
  refine w_rfl rfl (w_es1 (w_call (w_rfl rfl (pick_w K o1 (by omega) (by simp) (by simp) rfl ?_))))
  intro d hd p2 o2
  simp only [List.mem_cons, List.not_mem_nil, or_false] at hd
  have : d = .int 1 ∨ d = .int 2 := by
    rcases hd with h | h | h | h
    · exact .inl h
    · exact .inl h
    · exact .inl h
    · exact .inr h
  rcases this with rfl | rfl
  · exact w_rfl rfl (ret_w rfl rfl (h (1 + r) 1 p2 (by omega) (by omega) (by omega) (by omega) o2))
  · exact w_rfl rfl (ret_w rfl rfl (h (1 + r) 2 p2 (by omega) (by omega) (by omega) (by omega) o2))
end
end Kin
end
section
set_option linter.all false
set_option maxRecDepth 100000
set_option maxHeartbeats 1000003
namespace Kin
open PySem Ev
variable {G : Gl}
/-! ### nodes -/
structure Nd where
  nm : Nat
  par : Option Nat
  ats : List Rat
  bids : List Rat
def nmS (k : Nat) : Str := Str.ofString "n" ++ Str.ofString (toString (k : Int))
def parD : Option Nat → D
  | none => .non
  | some j => .int (j : Int)
def Nd.d (x : Nd) : D := .tup [.str (nmS x.nm), parD x.par, .tup (x.ats.map qD), .tup (x.bids.map qD)]
structure NdOk (nt k : Nat) (x : Nd) : Prop where
  nm : x.nm = k
  p0 : k = 0 → x.par = none
  p1 : 0 < k → ∃ j, j < k ∧ x.par = some j
  la : x.ats.length = nt
  lb : x.bids.length = nt
  ba : ∀ q ∈ x.ats, RB 20 q ∧ 0 < q
  bb : F2 (fun b a => b ≤ a ∧ 0 < b ∧ RB 24 b) x.bids x.ats
def NsOk (nt : Nat) (ns : List Nd) : Prop := ∀ k x, ns[k]? = some x → NdOk nt k x
theorem NsOk.nil {nt : Nat} : NsOk nt [] := fun k x h => by simp at h
theorem NsOk.snoc {nt : Nat} {ns : List Nd} {x : Nd} (h : NsOk nt ns) (hx : NdOk nt ns.length x) : NsOk nt (ns ++ [x]) := fun k y e => by
  by_cases hk : k < ns.length
  · rw [List.getElem?_append_left hk] at e
    exact h k y e
  · rw [List.getElem?_append_right (by omega)] at e
    have hk2 : k - ns.length = 0 := by
      have := (List.getElem?_eq_some_iff.mp e).1
      simp at this
      omega
    rw [hk2] at e
    cases e
    rw [show k = ns.length by omega]
    exact hx
theorem NsOk.take {nt : Nat} {ns : List Nd} (h : NsOk nt ns) (m : Nat) : NsOk nt (ns.take m) := fun k x e => by
  rw [List.getElem?_take] at e
  split at e
  · exact h k x e
  · cases e
/-! ### the end of the store -/
section
variable {a o o' : MO} {t : Sto} {Q : D → Sto → Prop}
theorem end_get : (a :: (t ++ [o]))[t.length + 1]? = some o := by simp
theorem end_set : (a :: (t ++ [o])).set (t.length + 1) o' = a :: (t ++ [o']) := by simp
theorem end_app {ys : List D} {v : D} (hv : plainD v = true) (hl : ys.length < 1000000) (h : Q .non (a :: (t ++ [.lst (ys ++ [v])]))) : Wp (metD (.mu (t.length + 1)) .append [v] (a :: (t ++ [.lst ys]))) Q :=
  w_rfl (app_ok end_get hv hl) (by rw [end_set]; exact h)
end
/-! ### bids -/
def f11 : Rat := ⟨1, 1, by decide, by decide⟩
def f910 : Rat := ⟨9, 10, by decide, by decide⟩
def f12 : Rat := ⟨1, 2, by decide, by decide⟩
def f34 : Rat := ⟨3, 4, by decide, by decide⟩
def fBids : List Rat := [f11, f910, f12, f34]
theorem fBids_ok : ∀ f ∈ fBids, RB 4 f ∧ f ≤ 1 ∧ 0 < f := by
  intro f hf
  simp only [fBids, List.mem_cons, List.not_mem_nil, or_false] at hf
  rcases hf with rfl | rfl | rfl | rfl <;> exact ⟨⟨by decide, by decide⟩, by decide, by decide⟩
def BidOk (b a : Rat) : Prop := b ≤ a ∧ 0 < b ∧ RB 24 b
theorem bid_times {a f : Rat} (ha : RB 20 a ∧ 0 < a) (hf : f ∈ fBids) : BidOk (a * f) a := by
  obtain ⟨h1, h2, h3⟩ := fBids_ok f hf
  have := Rat.mul_le_mul_of_nonneg_left h2 (Rat.le_of_lt ha.2)
  rw [Rat.mul_one] at this
  exact ⟨this, Rat.mul_pos ha.2 h3, ha.1.mul h1⟩
theorem bid_self : ∀ {ats : List Rat}, (∀ q ∈ ats, RB 20 q ∧ 0 < q) → F2 BidOk ats ats
  | [], _ => .nil
  | a :: as, h => .cons ⟨Rat.le_refl, (h a (List.mem_cons_self ..)).2, (h a (List.mem_cons_self ..)).1.mono (by omega)⟩ (bid_self fun q hq => h q (List.mem_cons_of_mem _ hq))
theorem F2.swap {α β : Type} {P : α → β → Prop} {as : List α} {bs : List β} (h : F2 (fun a b => P a b) as bs) : F2 (fun b a => P a b) bs as := by
  induction h with
  | nil => exact .nil
  | cons h _ ih => exact .cons h ih
theorem pick_rat (K : Base G) {k n : Nat} {p : PnT} {t : Sto} {Q : D → Sto → Prop} {qs : List Rat} (hp : p.Ok n) (hn : n + 1 < 1099511627776) (h0 : 0 < qs.length) (h1 : qs.length < 1000) (h : ∀ q ∈ qs, ∀ p', p'.Ok (n + 1) → Q (qD q) (PnT.mo p' :: t)) : Wp ((orcAt G (k+2)).fn "_law_pick" [.mu 0, .lst (qs.map qD)] (PnT.mo p :: t)) Q := by
  refine pick_w K hp hn (by simpa using h0) (by simpa using h1) ?_ ?_
  · rw [List.all_map, List.all_eq_true]
    intro q _
    rfl
  · intro d hd p' o
    obtain ⟨q, hq, rfl⟩ := List.mem_map.mp hd
    exact h q hq p' o
section
variable {k n : Nat} {p : PnT} {t : Sto} {Q : D → Sto → Prop}
theorem bids_w (K : Base G) {ats : List Rat} {w : Bool} (hp : p.Ok n) (hn : n + 1 + ats.length < 1099511627776) (hl : ats.length ≤ 1000) (ha : ∀ q ∈ ats, RB 20 q ∧ 0 < q)
    (h : ∀ bs p', F2 BidOk bs ats → p'.Ok (n + 1 + ats.length) → Q (.tup (bs.map qD)) (PnT.mo p' :: t)) : Wp ((orcAt G (k+4)).fn "_law_bids" [.mu 0, .tup (ats.map qD), .bl w] (PnT.mo p :: t)) Q := by
  have main : ∀ q : PnT, q.Ok (n + 1) → Wp (evSs (cxK G (k+3)) (.cons (.rtn (.bi .tuple (.cons (.comp false [("item", 3)] (.name 3) (.seq (.v 1)) .nil (.call "_law_times" (.cons (.v 3) (.cons (.call "_law_pick" (.cons (.v 0) (.cons (.lst false (.cons (.tup (.cons (.c (.int 1)) (.cons (.c (.int 1)) .nil))) (.cons (.tup (.cons (.c (.int 9)) (.cons (.c (.int 10)) .nil))) (.cons (.tup (.cons (.c (.int 1)) (.cons (.c (.int 2)) .nil))) (.cons (.tup (.cons (.c (.int 3)) (.cons (.c (.int 4)) .nil))) .nil))))) .nil))) .nil)))) .nil))) .nil)
      [some (.mu 0), some (.tup (ats.map qD)), some (.bl w), none] (PnT.mo q :: t)) (Ret (PnT.mo p :: t).length Q) := by
    intro q oq
    refine w_rtn (w_bi (w_es1 (w_comp0 rfl (w_seq (w_rfl rfl (w_rfl rfl ⟨ats.map qD, rfl, ?_⟩))))))
    refine loopC_m qD qD (fun a b => BidOk b a) (fun i s => ∃ p', s = PnT.mo p' :: t ∧ p'.Ok (n + 1 + i)) (i := 0) ⟨q, rfl, oq⟩ ?_ ?_
    · rintro j a s hj ⟨p1, rfl, o1⟩
      have hjl : j < ats.length := (List.getElem?_eq_some_iff.mp hj).1
      refine ct_elt rfl (w_call (w_esc (w_rfl rfl (w_es1 (w_call (w_esc (w_rfl rfl (w_es1 (w_rfl rfl (pick_rat K (qs := fBids) o1 (by omega) (by decide) (by decide) ?_))))))))))
      intro f hf p2 o2
      have hq := ha a (List.mem_of_getElem? hj)
      refine w_rfl (qtimes_ok K hq.1 (fBids_ok f hf).1 (by omega)) (w_rfl rfl ⟨a * f, rfl, bid_times hq hf, p2, rfl, o2.mono (by omega)⟩)
    · rintro bs s hb ⟨p1, rfl, o1⟩
      refine ⟨?_, w_rfl rfl (w_rfl rfl (ret_w rfl rfl (h bs p1 hb.swap (o1.mono (by omega)))))⟩
      have := hb.len
      rw [List.length_map]
      omega
  refine fn_w K._law_bids rfl rfl (w_ite (v_or (v_not (v_val (w_rfl rfl ⟨w, rfl, ?_, ?_⟩)))))
  · intro hw
    exact ⟨fun _ => w_rtn (w_rfl rfl (ret_w rfl rfl (h ats p (bid_self ha) (hp.mono (by omega))))), fun z => nomatch z⟩
  · intro hw
    refine v_cmp (w_call (w_rfl rfl (draw_w K hp (by omega) (by omega) rfl ?_)))
    intro r p1 h0 h1 o1
    refine w_rfl rfl (w_rfl (eq_int r 0 _) ⟨fun _ => w_rtn (w_rfl rfl (ret_w rfl rfl (h ats p1 (bid_self ha) (o1.mono (by omega))))), fun _ => w_nil (kk_nx (main p1 o1))⟩)
end
end Kin
end
section
set_option linter.all false
set_option maxRecDepth 100000
set_option maxHeartbeats 1000003
namespace Kin
open PySem Ev
variable {G : Gl}
/-! ### rows of whole numbers -/
def nD (l : List Nat) : List D := l.map fun (i : Nat) => D.int (i : Int)
structure Atm {ι : Type} (F : ι → D) (P : ι → PyData) : Prop where
  t : ∀ i, toPy (F i) = some (P i)
  c : ∀ i, (P i).canLay0 = true
  d : ∀ i, (P i).depth ≤ 1
def nP (i : Nat) : PyData := .int (i : Int)
def parP : Option Nat → PyData
  | none => .none
  | some j => .int (j : Int)
theorem atm_n : Atm (fun (i : Nat) => D.int (i : Int)) nP := ⟨fun _ => rfl, fun _ => rfl, fun _ => by simp [nP, PyData.depth]⟩
theorem atm_p : Atm parD parP := ⟨fun o => by cases o <;> rfl, fun o => by cases o <;> rfl, fun o => by cases o <;> simp [parP, PyData.depth]⟩
section
variable {ι : Type} {F : ι → D} {P : ι → PyData}
theorem Atm.ts (A : Atm F P) : ∀ l : List ι, toPys (l.map F) = some (l.map P)
  | [] => rfl
  | i :: l => by
    rw [List.map_cons, toPys, A.t i, A.ts l]
    rfl
theorem Atm.cs (A : Atm F P) : ∀ l : List ι, PyData.canLayAll0 (l.map P) = true
  | [] => by simp [PyData.canLayAll0]
  | i :: l => by
    rw [List.map_cons, PyData.canLayAll0, A.c i, A.cs l]
    rfl
theorem Atm.ds (A : Atm F P) : ∀ l : List ι, PyData.depthAll (l.map P) ≤ 1
  | [] => by simp [PyData.depthAll]
  | i :: l => by
    rw [List.map_cons, PyData.depthAll]
    have := A.d i
    have := A.ds l
    omega
theorem Atm.shl (A : Atm F P) (l : List ι) : SeqAt.shaped (.list (l.map P)) = true := by
  unfold SeqAt.shaped
  have := A.ds l
  rw [PyData.canLay0, A.cs l, PyData.depth, decide_eq_true (by omega)]
  rfl
theorem Atm.sht (A : Atm F P) (l : List ι) : SeqAt.shaped (.tuple (l.map P)) = true := by
  unfold SeqAt.shaped
  have := A.ds l
  rw [PyData.canLay0, A.cs l, PyData.depth, decide_eq_true (by omega)]
  rfl
theorem Atm.sh (A : Atm F P) (i : ι) : SeqAt.shaped (P i) = true := by
  unfold SeqAt.shaped
  have := A.d i
  rw [A.c i, decide_eq_true (by omega)]
  rfl
theorem Atm.inb {κ : Type} {F' : κ → D} {P' : κ → PyData} (A : Atm F P) (B : Atm F' P') (i : κ) (l : List ι) : inD (F' i) (l.map F) = some (l.any fun z => PyData.eqv (P z) (P' i)) := by
  unfold inD
  rw [B.t i, A.ts l]
  show (if SeqAt.shaped (P' i) && SeqAt.shaped (.list (l.map P)) && SeqAt.shaped (.tuple (l.map P)) then some ((l.map P).any fun z => PyData.eqv z (P' i)) else none) = _
  rw [B.sh i, A.shl l, A.sht l, List.any_map]
  rfl
theorem Atm.eql (A : Atm F P) (l m : List ι) : eqS (.lst (l.map F)) (.lst (m.map F)) = some (PyData.eqvAll (l.map P) (m.map P)) := by
  show eqD _ _ = _
  unfold eqD
  rw [toPy, toPy, A.ts l, A.ts m]
  show (if SeqAt.shaped (.list (l.map P)) && SeqAt.shaped (.list (m.map P)) then some (PyData.eqv (.list (l.map P)) (.list (m.map P))) else none) = _
  rw [A.shl l, A.shl m]
  simp only [PyData.eqv]
  rfl
theorem Atm.eqt (A : Atm F P) (l m : List ι) : eqS (.tup (l.map F)) (.tup (m.map F)) = some (PyData.eqvAll (l.map P) (m.map P)) := by
  show eqD _ _ = _
  unfold eqD
  rw [toPy, toPy, A.ts l, A.ts m]
  show (if SeqAt.shaped (.tuple (l.map P)) && SeqAt.shaped (.tuple (m.map P)) then some (PyData.eqv (.tuple (l.map P)) (.tuple (m.map P))) else none) = _
  rw [A.sht l, A.sht m]
  simp only [PyData.eqv]
  rfl
end
theorem eqv_n (i j : Nat) : PyData.eqv (nP i) (nP j) = decide (i = j) := by
  simp only [nP, PyData.eqv]
  by_cases h : i = j
  · subst h; simp
  · simp [h]; omega
theorem eqv_p (o : Option Nat) (j : Nat) : PyData.eqv (parP o) (nP j) = decide (o = some j) := by
  cases o with
  | none => simp [parP, nP, PyData.eqv]
  | some i =>
    have := eqv_n i j
    simp only [nP] at this
    simp only [parP, nP, this]
    simp
theorem eqvAll_n : ∀ l m : List Nat, PyData.eqvAll (l.map nP) (m.map nP) = decide (l = m)
  | [], [] => by simp [PyData.eqvAll]
  | [], _ :: _ => by simp [PyData.eqvAll]
  | _ :: _, [] => by simp [PyData.eqvAll]
  | i :: l, j :: m => by
    rw [List.map_cons, List.map_cons, PyData.eqvAll, eqv_n, eqvAll_n l m]
    by_cases h : i = j <;> simp [h]
section
variable (s : Sto)
theorem eq_nl (l m : List Nat) : cmpD .Eq (.lst (nD l)) (.lst (nD m)) s = .ok (decide (l = m)) s := by
  show opB (eqS (.lst (nD l)) (.lst (nD m))) s = _
  unfold nD
  rw [atm_n.eql, eqvAll_n]
  rfl
theorem ne_nl (l m : List Nat) : cmpD .NotEq (.lst (nD l)) (.lst (nD m)) s = .ok (!decide (l = m)) s := by
  show opB ((eqS (.lst (nD l)) (.lst (nD m))).map (!·)) s = _
  unfold nD
  rw [atm_n.eql, eqvAll_n]
  rfl
theorem ne_nt (l m : List Nat) : cmpD .NotEq (.tup (nD l)) (.tup (nD m)) s = .ok (!decide (l = m)) s := by
  show opB ((eqS (.tup (nD l)) (.tup (nD m))).map (!·)) s = _
  unfold nD
  rw [atm_n.eqt, eqvAll_n]
  rfl
theorem any_n (i : Nat) (l : List Nat) : (l.any fun z => PyData.eqv (nP z) (nP i)) = decide (i ∈ l) := by
  induction l with
  | nil => simp
  | cons a l ih =>
    rw [List.any_cons, ih, eqv_n]
    by_cases h : a = i
    · simp [h]
    · have h2 : ¬ i = a := fun z => h z.symm
      simp [h, h2]
theorem any_p (i : Nat) (l : List (Option Nat)) : (l.any fun z => PyData.eqv (parP z) (nP i)) = decide (some i ∈ l) := by
  induction l with
  | nil => simp
  | cons a l ih =>
    rw [List.any_cons, ih, eqv_p]
    by_cases h : a = some i
    · simp [h]
    · have h2 : ¬ some i = a := fun z => h z.symm
      simp [h, h2]
theorem in_nl (i : Nat) (l : List Nat) : cmpD .In (.int (i : Int)) (.lst (nD l)) s = .ok (decide (i ∈ l)) s := by
  show opB (inD (.int (i : Int)) (nD l)) s = _
  unfold nD
  have := atm_n.inb atm_n i l
  rw [any_n] at this
  rw [this]
  rfl
theorem in_nt (i : Nat) (l : List Nat) : cmpD .In (.int (i : Int)) (.tup (nD l)) s = .ok (decide (i ∈ l)) s := by
  show opB (inD (.int (i : Int)) (nD l)) s = _
  unfold nD
  have := atm_n.inb atm_n i l
  rw [any_n] at this
  rw [this]
  rfl
theorem notin_nl (i : Nat) (l : List Nat) : cmpD .NotIn (.int (i : Int)) (.lst (nD l)) s = .ok (!decide (i ∈ l)) s := by
  show opB ((inD (.int (i : Int)) (nD l)).map (!·)) s = _
  unfold nD
  have := atm_n.inb atm_n i l
  rw [any_n] at this
  rw [this]
  rfl
theorem notin_nt (i : Nat) (l : List Nat) : cmpD .NotIn (.int (i : Int)) (.tup (nD l)) s = .ok (!decide (i ∈ l)) s := by
  show opB ((inD (.int (i : Int)) (nD l)).map (!·)) s = _
  unfold nD
  have := atm_n.inb atm_n i l
  rw [any_n] at this
  rw [this]
  rfl
theorem in_pl (i : Nat) (l : List (Option Nat)) : cmpD .In (.int (i : Int)) (.lst (l.map parD)) s = .ok (decide (some i ∈ l)) s := by
  show opB (inD (.int (i : Int)) (l.map parD)) s = _
  have := atm_p.inb atm_n i l
  rw [any_p] at this
  rw [this]
  rfl
theorem eq_p (o : Option Nat) (j : Nat) : cmpD .Eq (parD o) (.int (j : Int)) s = .ok (decide (o = some j)) s := by
  have e : thD (parD o) s = parD o := by cases o <;> rfl
  show opB (eqS (thD (parD o) s) (.int (j : Int))) s = _
  rw [e]
  have : eqS (parD o) (.int (j : Int)) = some (PyData.eqv (parP o) (nP j)) := by
    have h1 : eqS (parD o) (.int (j : Int)) = eqD (parD o) (.int (j : Int)) := by cases o <;> rfl
    rw [h1]
    unfold eqD
    rw [atm_p.t o]
    show (if SeqAt.shaped (parP o) && SeqAt.shaped (nP j) then _ else none) = _
    rw [atm_p.sh o, atm_n.sh j]
    rfl
  rw [this, eqv_p]
  rfl
end
end Kin
end
section
set_option linter.all false
set_option maxRecDepth 100000
set_option maxHeartbeats 1000003
namespace Kin
open PySem Ev
variable {G : Gl}
/-! ### who stands behind whom -/
def PS (ns : List Nd) : List (Option Nat) := ns.map Nd.par
def behindL (ps : List (Option Nat)) (i : Nat) : List Nat := ps.zipIdx.filterMap fun p => if p.1 = some i then some p.2 else none
def leavesL (ps : List (Option Nat)) : List Nat := (List.range ps.length).filter fun k => decide (behindL ps k = [])
theorem behind_len (ps : List (Option Nat)) (i : Nat) : (behindL ps i).length ≤ ps.length := by
  unfold behindL
  refine Nat.le_trans (List.length_filterMap_le ..) ?_
  simp
theorem beh_map (ns : List Nd) (i : Nat) : (ns.zipIdx.filterMap fun p => if decide (p.1.par = some i) = true then some (D.int (p.2 : Int)) else none) = nD (behindL (PS ns) i) := by
  unfold nD behindL PS
  rw [List.zipIdx_map, List.filterMap_map, List.map_filterMap]
  congr 1
  funext p
  show _ = Option.map _ (if p.1.par = some i then some p.2 else none)
  by_cases h : p.1.par = some i
  · rw [decide_eq_true h, if_pos h]; rfl
  · rw [decide_eq_false h, if_neg h]; rfl
/-- a row of nodes, plain or kept -/
structure Row (d : D) (xs : List D) (s : Sto) : Prop where
  th : thD d s = .lst xs
  hid : ∃ h s1, hidD d s = .ok (.lst xs, h) s1 ∧ shwD h s1 = .ok () s
theorem Row.lst {xs : List D} {s : Sto} : Row (.lst xs) xs s := ⟨rfl, none, s, rfl, rfl⟩
theorem Row.mu {k : Nat} {xs : List D} {s : Sto} (h : s[k]? = some (.lst xs)) : Row (.mu k) xs s := by
  have hk : k < s.length := (List.getElem?_eq_some_iff.mp h).1
  refine ⟨thD_lst h, some (k, xs), s.set k (.env [] []), hid_lst h, ?_⟩
  rw [shw_ok (by rw [List.getElem?_set_self hk]), List.set_set]
  have : s.set k (.lst xs) = s := by
    apply List.ext_getElem?
    intro j
    by_cases hj : k = j
    · subst hj
      rw [List.getElem?_set_self hk, h]
    · rw [List.getElem?_set_ne hj]
  rw [this]
theorem behind_ok (K : Base G) {k : Nat} {d : D} {ns : List Nd} {i : Nat} {s : Sto} (hd : Row d (ns.map Nd.d) s) (hn : ns.length ≤ 1000) : (orcAt G (k+1)).fn "_law_behind" [d, .int (i : Int)] s = .ok (.lst (nD (behindL (PS ns) i))) s := by
  obtain ⟨h, s1, h1, h2⟩ := hd.hid
  have hb := behind_len (PS ns) i
  have hl : (PS ns).length = ns.length := by simp [PS]
  have e1 : evItQ (cxK G k) (.enum (.v 0)) [some d, some (.int (i : Int)), none, none] s = .ok (ns.zipIdx.map fun p => .tup [.int (p.2 : Int), p.1.d], h) s1 := by
    show bnd (hidD d) (fun p => opt ((itemsO p.1).map fun xs => ((xs.zipIdx).map fun p => D.tup [.int p.2, p.1], p.2))) s = _
    rw [bnd_ok h1]
    show R.ok ((((ns.map Nd.d).zipIdx).map fun p => D.tup [.int p.2, p.1]), h) s1 = _
    rw [List.zipIdx_map, List.map_map]
    rfl
  refine call_rt K._law_behind rfl rfl rfl rfl (r_rtn (r_comp (ys := nD (behindL (PS ns) i)) e1 ?_ (by unfold nD; rw [List.length_map]; omega) h2 rfl))
  rw [← beh_map]
  refine loopC_pm (fun p : Nd × Nat => D.tup [.int (p.2 : Int), p.1.d]) _ fun p _ => ?_
  exact c_if (q := decide (p.1.par = some i)) rfl (tt_cmp rfl rfl (eq_p s1 p.1.par i)) (fun _ => rfl) fun _ => rfl
theorem filter_map_if {l : List Nat} {q : Nat → Bool} : (l.filterMap fun k => if q k = true then some (D.int (k : Int)) else none) = nD (l.filter q) := by
  unfold nD
  induction l with
  | nil => rfl
  | cons a l ih =>
    rw [List.filterMap_cons, List.filter_cons, ih]
    cases q a <;> rfl
theorem rng_len {n : Nat} (h : n ≤ 1000000) : rngD [.int (n : Int)] = some (nD (List.range n)) := rng_of h
theorem leaves_ok (K : Base G) {k : Nat} {d : D} {ns : List Nd} {s : Sto} (hd : Row d (ns.map Nd.d) s) (hn : ns.length ≤ 1000) : (orcAt G (k+2)).fn "_law_leaves" [d] s = .ok (.lst (nD (leavesL (PS ns)))) s := by
  have hl : (PS ns).length = ns.length := by simp [PS]
  have hlen : (leavesL (PS ns)).length ≤ ns.length := by
    unfold leavesL
    refine Nat.le_trans (List.length_filter_le ..) ?_
    simp [hl]
  have e0 : biD .len [d] s = .ok (.int (ns.length : Int)) s := by
    show opD (biO .len [thD d s]) s = _
    rw [hd.th]
    show opD (some (.int (((ns.map Nd.d).length : Nat) : Int))) s = _
    rw [List.length_map]
    rfl
  have e1 : evItQ (cxK G (k+1)) (.rng (.cons (.bi .len (.cons (.v 0) .nil)) .nil)) [some d, none] s = .ok (nD (List.range ns.length), none) s := by
    show bnd (bnd (evEs (cxK G (k+1)) (.cons (.bi .len (.cons (.v 0) .nil)) .nil) [some d, none]) fun xs => opt (rngD xs)) _ s = _
    rw [bnd_bnd, bnd_ok (r_es1 (r_bi (r_es1 rfl) e0))]
    rw [rng_len (by omega)]
    rfl
  refine call_rt K._law_leaves rfl rfl rfl rfl (r_rtn (r_comp (ys := nD (leavesL (PS ns))) e1 ?_ (by unfold nD; rw [List.length_map]; omega) rfl rfl))
  unfold leavesL
  rw [← filter_map_if, hl]
  refine loopC_pm (fun (i : Nat) => D.int (i : Int)) _ fun i _ => ?_
  exact c_if (q := decide (behindL (PS ns) i = [])) rfl (tt_cmp (r_call rfl (behind_ok K hd hn)) rfl (eq_nl s _ [])) (fun _ => rfl) fun _ => rfl
end Kin
end
section
set_option linter.all false
set_option maxRecDepth 100000
set_option maxHeartbeats 1000003
namespace Kin
open PySem Ev
variable {G : Gl}
set_option exponentiation.threshold 3000 in
theorem str_ok {j : Nat} (h : j ≤ 1000) (s : Sto) : biD .str [.int (j : Int)] s = .ok (.str (Str.ofString (toString (j : Int)))) s := by
  show opD (if decide ((j : Int).natAbs.log2 < 1920) then some (D.str (Str.ofString (toString (j : Int)))) else none) s = _
  have : (j : Int).natAbs.log2 < 1920 := by
    by_cases h0 : (j : Int).natAbs = 0
    · rw [h0]; decide
    · exact (Nat.log2_lt h0).mpr (Nat.lt_trans (show (j : Int).natAbs < 1001 by omega) (by decide))
  rw [decide_eq_true this]
  rfl
theorem name_ok {j : Nat} (h : j ≤ 1000) (s : Sto) : binD .Add (.str "n") (.str (Str.ofString (toString (j : Int)))) s = .ok (.str (nmS j)) s := by
  have e := int_text_length_le10 (a := (j : Int)) (k := 4) (by decide) (by omega)
  show opD (if decide ((Str.ofString "n").length + (Str.ofString (toString (j : Int))).length ≤ 1000000) then some (D.str (Str.ofString "n" ++ Str.ofString (toString (j : Int)))) else none) s = _
  have : (Str.ofString "n").length + (Str.ofString (toString (j : Int))).length ≤ 1000000 := by
    rw [ofString_length, ofString_length]
    have : ("n" : String).length = 1 := by decide
    omega
  rw [decide_eq_true this]
  rfl
theorem div_pos {a b : Int} (ha : 0 < a) (hb : 0 < b) : 0 < Rat.divInt a b := by
  have e := lowD_q (a := a) (b := b) (by omega)
  unfold lowD qD at e
  injection e with e
  injection e with e1 e
  injection e1 with e1
  have hg : gz a b = (Int.gcd a b : Int) := by
    unfold gz
    rw [if_pos hb]
  have h0 : 0 < Int.gcd a b := Nat.pos_of_ne_zero fun z => by
    have := (Int.gcd_eq_zero_iff.mp z).2
    omega
  have : 0 < (Rat.divInt a b).num := by
    rw [← e1, hg, Int.fdiv_eq_ediv_of_nonneg _ (by omega)]
    exact Int.ediv_pos_of_pos_of_dvd ha (by omega) (Int.gcd_dvd_left ..)
  rw [Rat.lt_iff]
  simpa using this
theorem nD_get {m j : Nat} {x : D} (h : (nD (List.range m))[j]? = some x) : x = .int (j : Int) ∧ j < m := by
  unfold nD at h
  rw [List.getElem?_map] at h
  obtain ⟨i, hi, rfl⟩ := Option.map_eq_some_iff.mp h
  have := (List.getElem?_eq_some_iff.mp hi).1
  have hj : j < m := by simpa using this
  rw [List.getElem?_range hj] at hi
  cases hi
  exact ⟨rfl, hj⟩
theorem parD_plain (o : Option Nat) : plainD (parD o) = true := by cases o <;> rfl
theorem nd_frz (x : Nd) (s : Sto) : frzDs [.str (nmS x.nm), parD x.par, .tup (x.ats.map qD), .tup (x.bids.map qD)] s = .ok [.str (nmS x.nm), parD x.par, .tup (x.ats.map qD), .tup (x.bids.map qD)] s := by
  refine frzs_plain fun d hd => ?_
  simp only [List.mem_cons, List.not_mem_nil, or_false] at hd
  rcases hd with rfl | rfl | rfl | rfl
  · rfl
  · exact parD_plain _
  · rfl
  · rfl
def pairD (ab : Int × Int) : D := .tup [.int ab.1, .int ab.2]
def PriceOk (ab : Int × Int) : Prop := 1 ≤ ab.1 ∧ ab.1 ≤ 12 ∧ 1 ≤ ab.2 ∧ ab.2 ≤ 2
section
variable {k n : Nat} {p : PnT} {t : Sto} {Q : D → Sto → Prop}
def atsE : E := .bi .tuple (.cons (.comp false [("item", 8)] (.name 8) (.seq (.comp false [("j", 9)] (.name 9) (.rng (.cons (.v 1) .nil)) .nil (.call "_law_price" (.cons (.v 0) .nil)))) .nil (.call "_law_q" (.cons (.ix (.v 8) (.c (.int 0))) (.cons (.ix (.v 8) (.c (.int 1))) .nil)))) .nil)
theorem ats_w (K : Base G) {nt : Nat} {x2 x3 x4 x5 x6 x7 x8 x9 : Option D} (hp : p.Ok n) (hn : n + 2 * nt < 1099511627776) (hnt : nt ≤ 1000) (h : ∀ (ats : List Rat) p', p'.Ok (n + 2 * nt) → ats.length = nt → (∀ q ∈ ats, RB 20 q ∧ 0 < q) → Q (.tup (ats.map qD)) (PnT.mo p' :: t)) :
    Wp (evE (cxK G (k+3)) atsE [some (.mu 0), some (.int (nt : Int)), x2, x3, x4, x5, x6, x7, x8, x9] (PnT.mo p :: t)) Q := by
  refine w_bi (w_es1 (w_comp0 rfl (w_seq (w_comp0 rfl (w_rng (w_rfl rfl ⟨_, rng_len (by omega), ?_⟩))))))
  refine loopC_m (fun (i : Nat) => D.int (i : Int)) pairD (fun _ ab => PriceOk ab) (fun i s => ∃ p', s = PnT.mo p' :: t ∧ p'.Ok (n + 2 * i)) (i := 0) ⟨p, rfl, hp⟩ ?_ ?_
  · rintro j a s hj ⟨p1, rfl, o1⟩
    have hjl : j < nt := by
      have := (List.getElem?_eq_some_iff.mp hj).1
      simpa using this
    refine ct_elt rfl (w_call (w_rfl rfl (price_w K o1 (by omega) ?_)))
    intro a b p2 h1 h2 h3 h4 o2
    exact w_rfl rfl ⟨(a, b), rfl, ⟨h1, h2, h3, h4⟩, p2, rfl, o2.mono (by omega)⟩
  · rintro os s hf ⟨p1, rfl, o1⟩
    have hlen := hf.len
    simp only [List.length_range] at hlen
    have hos := hf.right (R := PriceOk) fun _ _ h => h
    refine ⟨by rw [List.length_map]; omega, w_rfl rfl (w_rfl rfl ⟨_, rfl, ?_⟩)⟩
    refine loopC_m pairD qD (fun ab q => RB 20 q ∧ 0 < q) (fun i s => s = PnT.mo p1 :: t) (i := 0) rfl ?_ ?_
    · rintro j ab s hj rfl
      obtain ⟨h1, h2, h3, h4⟩ := hos ab (List.mem_of_getElem? hj)
      refine ct_elt rfl (w_call (w_rfl rfl (w_rfl (qq_ok K _ ab.1 ab.2 _ (by omega) (szI_lt (k := 20) (by omega) (by omega))) (w_rfl rfl ⟨_, rfl, ⟨RB.div (by omega) (by omega) (by omega), div_pos (by omega) (by omega)⟩, rfl⟩))))
    · rintro qs s hq rfl
      have hq2 := hq.len
      refine ⟨by rw [List.length_map]; omega, w_rfl rfl (w_rfl rfl (h qs p1 (o1.mono (by simp)) (by omega) (hq.right fun _ _ h => h)))⟩
theorem tree_w (K : Base G) {nt most : Nat} {w : Bool} (hp : p.Ok n) (hn : n + 200 < 1099511627776) (hnt : nt ≤ 2) (hm0 : 0 < most) (hm : most ≤ 6) (h : ∀ ns p', p'.Ok (n + 200) → NsOk nt ns → 1 ≤ ns.length → ns.length ≤ 6 → Q (.mu (t.length + 1)) (PnT.mo p' :: (t ++ [.lst (ns.map Nd.d)]))) :
    Wp ((orcAt G (k+5)).fn "_law_tree" [.mu 0, .int (nt : Int), .int (most : Int), .bl w] (PnT.mo p :: t)) Q := by
  refine fn_w K._law_tree rfl rfl <| w_set <| w_rfl (s := PnT.mo p :: (t ++ [MO.lst []])) rfl <| w_for <| w_rng <| w_es1 <| w_bin <| w_rfl rfl <| w_call <| w_rfl rfl <| draw_w K (t := t ++ [MO.lst []]) hp (m := (most : Int)) (by omega) (by omega) (szI_lt (k := 20) (by omega) (by omega)) ?_
  intro r p1 r0 r1 o1
  obtain ⟨r, rfl⟩ : ∃ m : Nat, r = m := ⟨r.toNat, by omega⟩
  have er : (1 : Int) + (r : Int) = ((r + 1 : Nat) : Int) := by omega
  refine w_rfl (a := .int ((r + 1 : Nat) : Int)) (by rw [← er]; rfl) ⟨_, rng_len (by omega), ?_⟩
  refine loop_w (fun i e s => ∃ x5 x6 x7 x8 x9 ns p', e = [some (.mu 0), some (.int (nt : Int)), some (.int (most : Int)), some (.bl w), some (.mu (t.length + 1)), x5, x6, x7, x8, x9] ∧ s = PnT.mo p' :: (t ++ [.lst (ns.map Nd.d)]) ∧ p'.Ok (n + 1 + 20 * i) ∧ ns.length = i ∧ NsOk nt ns) (i := 0)
    ⟨none, none, none, none, none, [], p1, rfl, rfl, o1, rfl, NsOk.nil⟩ ?_ ?_
  · rintro j x e s hx ⟨x5, x6, x7, x8, x9, ns, p2, rfl, rfl, o2, hl, hns⟩
    obtain ⟨rfl, hj⟩ := nD_get hx
    rw [Nat.zero_add] at hl o2
    refine w_set (ats_w K (k := k + 1) (nt := nt) o2 (by omega) (by omega) ?_)
    intro ats p3 o3 hla hats
    have fin : ∀ (par : Option Nat) (p4 : PnT), p4.Ok (n + 1 + 20 * j + 2 * nt + 2) → (j = 0 → par = none) → (0 < j → ∃ i, i < j ∧ par = some i) →
        Wp (evSs (cxK G (k+4)) (.cons (.exp (.met (.v 4) .append (.cons (.tup (.cons (.bin .Add (.c (.str "n")) (.bi .str (.cons (.v 5) .nil))) (.cons (.v 7) (.cons (.v 6) (.cons (.call "_law_bids" (.cons (.v 0) (.cons (.v 6) (.cons (.v 3) .nil)))) .nil))))) .nil))) .nil)
          [some (.mu 0), some (.int (nt : Int)), some (.int (most : Int)), some (.bl w), some (.mu (t.length + 1)), some (.int (j : Int)), some (.tup (ats.map qD)), some (parD par), x8, x9] (PnT.mo p4 :: (t ++ [.lst (ns.map Nd.d)])))
          (fun fl s' => ∃ e', fl = .nx e' ∧ ∃ x5 x6 x7 x8 x9 ns p', e' = [some (.mu 0), some (.int (nt : Int)), some (.int (most : Int)), some (.bl w), some (.mu (t.length + 1)), x5, x6, x7, x8, x9] ∧ s' = PnT.mo p' :: (t ++ [.lst (ns.map Nd.d)]) ∧ p'.Ok (n + 1 + 20 * (0 + j + 1)) ∧ ns.length = 0 + j + 1 ∧ NsOk nt ns) := by
      intro par p4 o4 h0 h1
      refine w_exp <| w_met <| w_rfl rfl ⟨by rw [thD_lst end_get]; rfl, w_es1 <| w_tup <| w_esc <| w_bin <| w_rfl rfl <| w_bi <| w_es1 <| w_rfl rfl <| w_rfl (str_ok (by omega) _) <| w_rfl (name_ok (by omega) _) <| w_esc <| w_rfl rfl <| w_esc <| w_rfl rfl <| w_es1 <| w_call <| w_rfl rfl <| bids_w K o4 (by omega) (by omega) hats ?_⟩
      intro bs p5 hb o5
      refine w_rfl (nd_frz ⟨j, par, ats, bs⟩ _) (end_app rfl (by rw [List.length_map]; omega) (w_nil ⟨_, rfl, some (.int (j : Int)), _, _, x8, x9, ns ++ [⟨j, par, ats, bs⟩], p5, rfl, by rw [List.map_append]; rfl, o5.mono (by omega), by rw [List.length_append, hl, List.length_singleton]; omega, hns.snoc ?_⟩))
      rw [hl]
      exact ⟨rfl, h0, h1, hla, by have := hb.len; show bs.length = nt; omega, hats, hb⟩
    refine w_set (w_ife (v_cmp (w_rfl rfl (w_rfl rfl (w_rfl (eq_int (j : Int) 0 _) ⟨?_, ?_⟩)))))
    · intro hj0
      have hj0 := of_decide_eq_true hj0
      exact w_rfl rfl (fin none p3 (o3.mono (by omega)) (fun _ => rfl) (fun z => by omega))
    · intro hj0
      have hj0 := of_decide_eq_false hj0
      refine w_ife (v_cmp (w_call (w_rfl rfl (draw_w K o3 (by omega) (by omega) rfl ?_))))
      intro r p4 r0 r1 o4
      refine w_rfl rfl (w_rfl (eq_int r 0 _) ⟨fun _ => ?_, fun _ => ?_⟩)
      · refine w_call (w_rfl rfl (draw_w K o4 (by omega) (by omega) (szI_lt (k := 20) (by omega) (by omega)) ?_))
        intro i p5 i0 i1 o5
        obtain ⟨i, rfl⟩ : ∃ m : Nat, i = m := ⟨i.toNat, by omega⟩
        exact fin (some i) p5 (o5.mono (by omega)) (fun z => by omega) (fun _ => ⟨i, by omega, rfl⟩)
      · obtain ⟨m, hm, hlt⟩ : ∃ m : Nat, (if ((j : Int) - 1).fdiv 2 > 0 then ((j : Int) - 1).fdiv 2 else 0) = (m : Int) ∧ m < j := by
          rw [Int.fdiv_eq_ediv_of_nonneg _ (by omega)]
          split
          · exact ⟨(((j : Int) - 1) / 2).toNat, by omega, by omega⟩
          · exact ⟨0, rfl, by omega⟩
        refine w_bi (w_esc (w_rfl rfl (w_es1 (w_bin (w_rfl rfl (w_rfl rfl (w_rfl (fdiv_int (by omega) rfl _) (w_rfl (a := .int (m : Int)) ?_ (fin (some m) p4 (o4.mono (by omega)) (fun z => by omega) (fun _ => ⟨m, hlt, rfl⟩))))))))))
        rw [← hm]
        rfl
  · rintro e s ⟨x5, x6, x7, x8, x9, ns, p2, rfl, rfl, o2, hl, hns⟩
    have hl2 : ns.length = r + 1 := by
      rw [hl]
      simp [nD]
    have o3 : p2.Ok (n + 200) := o2.mono (by simp [nD]; omega)
    exact kk_nx (w_rtn (w_rfl rfl (ret_mu (by simp) (h ns p2 o3 hns (by omega) (by omega)))))
end
end Kin
end
section
set_option linter.all false
set_option maxRecDepth 100000
set_option maxHeartbeats 1000003
namespace Kin
open PySem Ev
variable {G : Gl}
theorem at_ok {xs : List D} {k : Nat} {x : D} (h : xs[k]? = some x) : atI xs (k : Int) = some x := by
  have hk : k < xs.length := (List.getElem?_eq_some_iff.mp h).1
  unfold atI ixN
  rw [if_pos (by omega), if_pos (by omega)]
  exact h
theorem get_row {d : D} {xs : List D} {k : Nat} {x : D} {s : Sto} (ht : thD d s = .lst xs) (h : xs[k]? = some x) : getD d (.int (k : Int)) s = .ok x s := by
  show opD (getO (thD d s) (.int (k : Int))) s = _
  rw [ht]
  show opD (atI xs (k : Int)) s = _
  rw [at_ok h]
  rfl
theorem len_row {d : D} {xs : List D} {s : Sto} (ht : thD d s = .lst xs) : biD .len [d] s = .ok (.int (xs.length : Int)) s := by
  show opD (biO .len [thD d s]) s = _
  rw [ht]
  rfl
def g32 : Rat := ⟨3, 2, by decide, by decide⟩
def g54 : Rat := ⟨5, 4, by decide, by decide⟩
def g21 : Rat := ⟨2, 1, by decide, by decide⟩
def g43 : Rat := ⟨4, 3, by decide, by decide⟩
def g23 : Rat := ⟨2, 3, by decide, by decide⟩
def f81 : Rat := ⟨8, 1, by decide, by decide⟩
def bys : List (List Rat) := [[g32, f12], [g54, f34], [g21, f11, f12], [g43, g23]]
def bysD : List D := bys.map fun qs => D.lst (qs.map qD)
theorem bys_ok : ∀ qs ∈ bys, qs.length ≤ 3 ∧ 2 ≤ qs.length ∧ ∀ f ∈ qs, RB 3 f ∧ 0 < f := by
  intro qs hq
  simp only [bys, List.mem_cons, List.not_mem_nil, or_false] at hq
  rcases hq with rfl | rfl | rfl | rfl <;> refine ⟨by decide, by decide, ?_⟩ <;> intro f hf <;> simp only [List.mem_cons, List.not_mem_nil, or_false] at hf
  · rcases hf with rfl | rfl <;> exact ⟨⟨by decide, by decide⟩, by decide⟩
  · rcases hf with rfl | rfl <;> exact ⟨⟨by decide, by decide⟩, by decide⟩
  · rcases hf with rfl | rfl | rfl <;> exact ⟨⟨by decide, by decide⟩, by decide⟩
  · rcases hf with rfl | rfl <;> exact ⟨⟨by decide, by decide⟩, by decide⟩
section
variable {k n : Nat} {p : PnT} {t : Sto} {Q : D → Sto → Prop}
theorem moved_w (K : Base G) {many : Nat} {w : Bool} (hp : p.Ok n) (hn : n + 200 < 1099511627776) (hm : many ≤ 2) (h : ∀ (ns : List Nd) p', p'.Ok (n + 200) → NsOk 1 ns → 1 ≤ ns.length → ns.length ≤ 6 → Q (.mu (t.length + 1)) (PnT.mo p' :: (t ++ [.lst (ns.map Nd.d)]))) :
    Wp ((orcAt G (k+5)).fn "_law_moved_tree" [.mu 0, .int (many : Int), .bl w] (PnT.mo p :: t)) Q := by
  refine fn_w K._law_moved_tree rfl rfl <| w_set <| w_rfl (a := .mu (t.length + 1)) (s := PnT.mo p :: (t ++ [MO.lst (List.map Nd.d [⟨0, none, [f81], [f81]⟩])])) (by with_unfolding_all rfl) <| w_for <| w_rng <| w_rfl rfl ⟨_, rng_len (by omega), ?_⟩
  refine loop_w (fun i e s => ∃ x4 x5 x6 x7 ns p', e = [some (.mu 0), some (.int (many : Int)), some (.bl w), some (.mu (t.length + 1)), x4, x5, x6, x7] ∧ s = PnT.mo p' :: (t ++ [.lst (ns.map Nd.d)]) ∧ p'.Ok (n + 50 * i) ∧ NsOk 1 ns ∧ 1 ≤ ns.length ∧ ns.length ≤ 6 ∧ ∀ x ∈ ns, ∀ q ∈ x.ats, RB (4 + 3 * i) q) (i := 0)
    ⟨none, none, none, none, [⟨0, none, [f81], [f81]⟩], p, rfl, rfl, hp, ?_, by decide, by decide, ?_⟩ ?_ ?_
  · refine NsOk.nil.snoc ⟨rfl, fun _ => rfl, fun z => absurd z (by decide), rfl, rfl, ?_, .cons ⟨Rat.le_refl, by decide, ⟨by decide, by decide⟩⟩ .nil⟩
    intro q hq
    simp only [List.mem_cons, List.not_mem_nil, or_false] at hq
    subst hq
    exact ⟨⟨by decide, by decide⟩, by decide⟩
  · intro x hx q hq
    simp only [List.mem_cons, List.not_mem_nil, or_false] at hx
    subst hx
    simp only [List.mem_cons, List.not_mem_nil, or_false] at hq
    subst hq
    exact ⟨by decide, by decide⟩
  · rintro j x e s hx ⟨x4, x5, x6, x7, ns, p1, rfl, rfl, o1, hns, l1, l6, hrb⟩
    obtain ⟨rfl, hj⟩ := nD_get hx
    rw [Nat.zero_add] at hrb o1
    have skip : Wp (evSs (cxK G (k+4)) .nil [some (.mu 0), some (.int (many : Int)), some (.bl w), some (.mu (t.length + 1)), some (.int (j : Int)), x5, x6, x7] (PnT.mo p1 :: (t ++ [.lst (ns.map Nd.d)])))
        (KK (cxK G (k+4)) .nil (fun fl s' => ∃ e', fl = .nx e' ∧ ∃ x4 x5 x6 x7 ns p', e' = [some (.mu 0), some (.int (many : Int)), some (.bl w), some (.mu (t.length + 1)), x4, x5, x6, x7] ∧ s' = PnT.mo p' :: (t ++ [.lst (ns.map Nd.d)]) ∧ p'.Ok (n + 50 * (0 + j + 1)) ∧ NsOk 1 ns ∧ 1 ≤ ns.length ∧ ns.length ≤ 6 ∧ ∀ x ∈ ns, ∀ q ∈ x.ats, RB (4 + 3 * (0 + j + 1)) q)) :=
      w_nil <| kk_nx <| w_nil ⟨_, rfl, _, x5, x6, x7, ns, p1, rfl, rfl, o1.mono (by omega), hns, l1, l6, fun x hx q hq => (hrb x hx q hq).mono (by omega)⟩
    have row : Row (.mu (t.length + 1)) (ns.map Nd.d) (PnT.mo p1 :: (t ++ [.lst (ns.map Nd.d)])) := Row.mu end_get
    have ln : biD .len [.mu (t.length + 1)] (PnT.mo p1 :: (t ++ [.lst (ns.map Nd.d)])) = .ok (.int (ns.length : Int)) (PnT.mo p1 :: (t ++ [.lst (ns.map Nd.d)])) := by
      rw [len_row row.th, List.length_map]
    refine w_ite <| v_and <| v_cmp <| w_bi <| w_es1 <| w_call <| w_rfl rfl <| w_rfl (behind_ok K row (by omega)) <| w_rfl rfl <| w_rfl rfl <| w_rfl (eq_int _ _ _) ⟨fun _ => ?_, fun _ => ⟨fun z => (nomatch z), fun _ => skip⟩⟩
    refine v_and <| v_cmp <| w_rfl rfl <| w_bi <| w_es1 <| w_rfl rfl <| w_rfl ln <| w_rfl (a := decide ((j : Int) < (ns.length : Int))) rfl ⟨fun c2 => ?_, fun _ => ⟨fun z => (nomatch z), fun _ => skip⟩⟩
    have c2 := of_decide_eq_true c2
    refine v_cmp <| w_bin <| w_bi <| w_es1 <| w_rfl rfl <| w_rfl ln <| w_rfl rfl <| w_rfl rfl <| w_rfl (a := .int (2 * (many : Int) + 1)) (r_bin (r_bin rfl rfl (mul_int rfl (szI_lt (k := 20) (by omega) (by omega)) _)) rfl rfl) <| w_rfl (a := decide ((ns.length : Int) + 2 ≤ 2 * (many : Int) + 1)) rfl ⟨fun c3 => ?_, fun _ => skip⟩
    have c3 := of_decide_eq_true c3
    have hjn : j < ns.length := by omega
    have ej : ns[j]? = some ns[j] := List.getElem?_eq_getElem hjn
    have hd := hns j _ ej
    obtain ⟨q, hq⟩ : ∃ q, ns[j].ats = [q] := by
      have := hd.la
      match ns[j].ats, this with
      | [q], _ => exact ⟨q, rfl⟩
    have hq1 : RB (4 + 3 * j) q := hrb _ (List.mem_of_getElem? ej) q (by rw [hq]; simp)
    have hq2 : 0 < q := (hd.ba q (by rw [hq]; simp)).2
    have e0 : (ns.map Nd.d)[j]? = some (Nd.d ns[j]) := by rw [List.getElem?_map, ej]; rfl
    have e1 : Nd.d ns[j] = .tup [.str (nmS ns[j].nm), parD ns[j].par, .tup [qD q], .tup (ns[j].bids.map qD)] := by
      unfold Nd.d
      rw [hq]
      rfl
    refine w_set <| w_rfl (a := qD q) (r_ix (r_ix (r_ix rfl rfl (get_row row.th e0)) rfl (by rw [e1]; rfl)) rfl rfl) <| w_for <| w_seq <| w_call <| w_rfl rfl <| pick_w K (xs := bysD) o1 (by omega) (by decide) (by decide) (by rfl) ?_
    intro d hd p2 o2
    obtain ⟨qs, hqs, rfl⟩ := List.mem_map.mp hd
    obtain ⟨b1, b2, b3⟩ := bys_ok qs hqs
    refine w_rfl rfl ⟨qs.map qD, rfl, ?_⟩
    refine loop_w (fun i e s => ∃ x6 x7 ns' p', e = [some (.mu 0), some (.int (many : Int)), some (.bl w), some (.mu (t.length + 1)), some (.int (j : Int)), some (qD q), x6, x7] ∧ s = PnT.mo p' :: (t ++ [.lst (ns'.map Nd.d)]) ∧ p'.Ok (n + 50 * j + 1 + 5 * i) ∧ NsOk 1 ns' ∧ ns'.length = ns.length + i ∧ ∀ x ∈ ns', ∀ q ∈ x.ats, RB (4 + 3 * (j + 1)) q) (i := 0)
      ⟨x6, x7, ns, p2, rfl, rfl, o2, hns, rfl, fun x hx q hq => (hrb x hx q hq).mono (by omega)⟩ ?_ ?_
    · rintro i x e s hx ⟨x6, x7, ns', p3, rfl, rfl, o3, hns', hl', hrb'⟩
      rw [List.getElem?_map] at hx
      obtain ⟨f, hf, rfl⟩ := Option.map_eq_some_iff.mp hx
      obtain ⟨f1, f2⟩ := b3 f (List.mem_of_getElem? hf)
      have hi : i < qs.length := (List.getElem?_eq_some_iff.mp hf).1
      have hqf : RB (4 + 3 * (j + 1)) (q * f) := (hq1.mul f1).mono (by omega)
      have pqf : 0 < q * f := Rat.mul_pos hq2 f2
      have row' : Row (.mu (t.length + 1)) (ns'.map Nd.d) (PnT.mo p3 :: (t ++ [.lst (ns'.map Nd.d)])) := Row.mu end_get
      refine w_set <| w_tup <| w_es1 <| w_call <| w_rfl rfl <| w_rfl (qtimes_ok K hq1 f1 (by omega)) <| w_rfl rfl ?_
      refine w_exp <| w_met <| w_rfl rfl ⟨by rw [thD_lst end_get]; rfl, w_es1 <| w_tup <| w_esc <| w_bin <| w_rfl rfl <| w_bi <| w_es1 <| w_bi <| w_es1 <| w_rfl rfl <| w_rfl (len_row row'.th) <| w_rfl (str_ok (by rw [List.length_map]; omega) _) <| w_rfl (name_ok (by rw [List.length_map]; omega) _) <| w_esc <| w_rfl rfl <| w_esc <| w_rfl rfl <| w_es1 <| w_call <| w_rfl rfl <| bids_w K (ats := [q * f]) o3 (by simp; omega) (by simp) ?_ ?_⟩
      · intro z hz
        simp only [List.mem_cons, List.not_mem_nil, or_false] at hz
        subst hz
        exact ⟨hqf.mono (by omega), pqf⟩
      · intro bs p4 hb o4
        have hlb : bs.length = 1 := hb.len
        refine w_rfl (nd_frz ⟨(ns'.map Nd.d).length, some j, [q * f], bs⟩ _) (end_app rfl (by rw [List.length_map]; omega) (w_nil ⟨_, rfl, some (qD f), some (.tup [qD (q * f)]), ns' ++ [⟨(ns'.map Nd.d).length, some j, [q * f], bs⟩], p4, rfl, by rw [List.map_append]; rfl, o4.mono (by simp; omega), hns'.snoc (x := ⟨(ns'.map Nd.d).length, some j, [q * f], bs⟩) ⟨by simp, fun z => by omega, fun _ => ⟨j, by omega, rfl⟩, rfl, hlb, ?_, hb⟩, by rw [List.length_append, List.length_singleton]; omega, ?_⟩))
        · intro z hz
          simp only [List.mem_cons, List.not_mem_nil, or_false] at hz
          subst hz
          exact ⟨hqf.mono (by omega), pqf⟩
        · intro x hx z hz
          rcases List.mem_append.mp hx with hx | hx
          · exact hrb' x hx z hz
          · simp only [List.mem_cons, List.not_mem_nil, or_false] at hx
            subst hx
            simp only [List.mem_cons, List.not_mem_nil, or_false] at hz
            subst hz
            exact hqf
    · rintro e s ⟨x6, x7, ns', p3, rfl, rfl, o3, hns', hl', hrb'⟩
      rw [List.length_map] at hl' o3
      exact kk_nx <| w_nil <| kk_nx <| w_nil ⟨_, rfl, _, _, x6, x7, ns', p3, rfl, rfl, o3.mono (by omega), hns', by omega, by omega, fun x hx q hq => (hrb' x hx q hq).mono (by omega)⟩
  · rintro e s ⟨x4, x5, x6, x7, ns, p1, rfl, rfl, o1, hns, l1, l6, hrb⟩
    refine kk_nx <| w_rtn <| w_rfl rfl <| ret_mu (by simp) (h ns p1 (o1.mono ?_) hns l1 l6)
    have : (nD (List.range many)).length = many := by simp [nD]
    omega
end
end Kin
end
section
set_option linter.all false
set_option maxRecDepth 100000
set_option maxHeartbeats 1000003
namespace Kin
open PySem Ev
variable {G : Gl}
/-! ### limits -/
def oD : Option Rat → D
  | none => .non
  | some q => qD q
def limD (l : Option Rat × Option Rat) : D := .tup [oD l.1, oD l.2]
def lows : List (Option Rat) := [none, none, some ⟨0, 1, by decide, by decide⟩, some ⟨-1, 1, by decide, by decide⟩, some ⟨-2, 1, by decide, by decide⟩]
def highs : List (Option Rat) := [none, none, some ⟨1, 1, by decide, by decide⟩, some ⟨3, 2, by decide, by decide⟩, some ⟨0, 1, by decide, by decide⟩]
def lowsD : List D := lows.map oD
def highsD : List D := highs.map oD
structure LimOk (l : Option Rat × Option Rat) : Prop where
  lo : ∀ q, l.1 = some q → RB 4 q ∧ q ≤ 0
  hi : ∀ q, l.2 = some q → RB 4 q ∧ 0 ≤ q
theorem lows_ok : ∀ o ∈ lows, ∀ q, o = some q → RB 4 q ∧ q ≤ 0 := by
  intro o ho q hq
  subst hq
  simp only [lows, List.mem_cons, List.not_mem_nil, or_false] at ho
  rcases ho with h | h | h | h | h <;> first | (cases h; done) | (cases h; exact ⟨⟨by decide, by decide⟩, by decide⟩)
theorem highs_ok : ∀ o ∈ highs, ∀ q, o = some q → RB 4 q ∧ 0 ≤ q := by
  intro o ho q hq
  subst hq
  simp only [highs, List.mem_cons, List.not_mem_nil, or_false] at ho
  rcases ho with h | h | h | h | h <;> first | (cases h; done) | (cases h; exact ⟨⟨by decide, by decide⟩, by decide⟩)
theorem oD_plain (o : Option Rat) : plainD (oD o) = true := by cases o <;> rfl
theorem two_frz {a b : D} (ha : plainD a = true) (hb : plainD b = true) (s : Sto) : frzDs [a, b] s = .ok [a, b] s := by
  refine frzs_plain fun d hd => ?_
  simp only [List.mem_cons, List.not_mem_nil, or_false] at hd
  rcases hd with rfl | rfl <;> assumption
section
variable {k n : Nat} {p : PnT} {t : Sto} {Q : D → Sto → Prop}
theorem limits_w (K : Base G) {nt : Nat} {w : Bool} (hp : p.Ok n) (hn : n + 10 < 1099511627776) (hnt : nt ≤ 2) (h : ∀ (ls : List (Option Rat × Option Rat)) p', p'.Ok (n + 10) → ls.length = nt → (∀ l ∈ ls, LimOk l) → Q (.mu (t.length + 1)) (PnT.mo p' :: (t ++ [.lst (ls.map limD)]))) :
    Wp ((orcAt G (k+3)).fn "_law_limits" [.mu 0, .int (nt : Int), .bl w] (PnT.mo p :: t)) Q := by
  refine fn_w K._law_limits rfl rfl <| w_set <| w_rfl (a := .mu (t.length + 1)) (s := PnT.mo p :: (t ++ [MO.lst []])) rfl <| w_for <| w_rng <| w_rfl rfl ⟨_, rng_len (by omega), ?_⟩
  refine loop_w (fun i e s => ∃ x4 x5, ∃ ls : List (Option Rat × Option Rat), ∃ p', e = [some (.mu 0), some (.int (nt : Int)), some (.bl w), some (.mu (t.length + 1)), x4, x5] ∧ s = PnT.mo p' :: (t ++ [.lst (ls.map limD)]) ∧ p'.Ok (n + 4 * i) ∧ ls.length = i ∧ ∀ l ∈ ls, LimOk l) (i := 0)
    ⟨none, none, [], p, rfl, rfl, hp, rfl, fun l hl => by cases hl⟩ ?_ ?_
  · rintro j x e s hx ⟨x4, x5, ls, p1, rfl, rfl, o1, hl, hls⟩
    obtain ⟨rfl, hj⟩ := nD_get hx
    rw [Nat.zero_add] at hl o1
    have fin : ∀ (a b : Option Rat) (p2 : PnT), p2.Ok (n + 4 * j + 2) → (∀ q, a = some q → RB 4 q ∧ q ≤ 0) → (∀ q, b = some q → RB 4 q ∧ 0 ≤ q) → Wp (metD (.mu (t.length + 1)) .append [.tup [oD a, oD b]] (PnT.mo p2 :: (t ++ [.lst (ls.map limD)]))) (fun _ s1 => Wp (evSs (cxK G (k+2)) .nil [some (.mu 0), some (.int (nt : Int)), some (.bl w), some (.mu (t.length + 1)), some (.int (j : Int)), some (oD a)] s1) (fun fl s' => ∃ e', fl = .nx e' ∧ ∃ x4 x5, ∃ ls : List (Option Rat × Option Rat), ∃ p', e' = [some (.mu 0), some (.int (nt : Int)), some (.bl w), some (.mu (t.length + 1)), x4, x5] ∧ s' = PnT.mo p' :: (t ++ [.lst (ls.map limD)]) ∧ p'.Ok (n + 4 * (0 + j + 1)) ∧ ls.length = 0 + j + 1 ∧ ∀ l ∈ ls, LimOk l)) := by
      intro a b p2 o2 ha hb
      refine end_app rfl (by rw [List.length_map]; omega) (w_nil ⟨_, rfl, _, _, ls ++ [(a, b)], p2, rfl, by rw [List.map_append]; rfl, o2.mono (by omega), by rw [List.length_append, hl, List.length_singleton]; omega, fun l hl => ?_⟩)
      rcases List.mem_append.mp hl with hl | hl
      · exact hls l hl
      · simp only [List.mem_cons, List.not_mem_nil, or_false] at hl
        subst hl
        exact ⟨ha, hb⟩
    have mb : ∀ p2 : PnT, metB .append (thD (.mu (t.length + 1)) (PnT.mo p2 :: (t ++ [.lst (ls.map limD)]))) = true := fun p2 => by rw [thD_lst end_get]; rfl
    cases w with
    | true =>
      refine w_set <| w_ife <| v_val <| w_rfl rfl ⟨true, rfl, fun _ => ?_, fun z => nomatch z⟩
      refine w_call <| w_rfl rfl <| pick_w K (xs := lowsD) o1 (by omega) (by decide) (by decide) (by rfl) ?_
      intro d hd p2 o2
      obtain ⟨a, ha, rfl⟩ := List.mem_map.mp hd
      refine w_exp <| w_met <| w_rfl rfl ⟨mb p2, w_es1 <| w_tup <| w_esc <| w_rfl rfl <| w_es1 <| w_ife <| v_val <| w_rfl rfl ⟨true, rfl, fun _ => ?_, fun z => nomatch z⟩⟩
      refine w_call <| w_rfl rfl <| pick_w K (xs := highsD) o2 (by omega) (by decide) (by decide) (by rfl) ?_
      intro d hd p3 o3
      obtain ⟨b, hb, rfl⟩ := List.mem_map.mp hd
      exact w_rfl (two_frz (oD_plain a) (oD_plain b) _) (fin a b p3 (o3.mono (by omega)) (lows_ok a ha) (highs_ok b hb))
    | false =>
      refine w_set <| w_ife <| v_val <| w_rfl rfl ⟨false, rfl, fun z => (nomatch z), fun _ => ?_⟩
      refine w_rfl rfl <| w_exp <| w_met <| w_rfl rfl ⟨mb p1, w_es1 <| w_tup <| w_esc <| w_rfl rfl <| w_es1 <| w_ife <| v_val <| w_rfl rfl ⟨false, rfl, fun z => (nomatch z), fun _ => ?_⟩⟩
      exact w_rfl rfl <| w_rfl (two_frz (oD_plain none) (oD_plain none) _) (fin none none p1 (o1.mono (by omega)) (fun q hq => nomatch hq) (fun q hq => nomatch hq))
  · rintro e s ⟨x4, x5, ls, p1, rfl, rfl, o1, hl, hls⟩
    have : (nD (List.range nt)).length = nt := by simp [nD]
    exact kk_nx <| w_rtn <| w_rfl rfl <| ret_mu (by simp) (h ls p1 (o1.mono (by omega)) (by omega) hls)
theorem erase_map {α β : Type} {f : α → β} : ∀ (l : List α) (i : Nat), (l.map f).eraseIdx i = (l.eraseIdx i).map f
  | [], i => by simp
  | a :: l, 0 => by simp
  | a :: l, i + 1 => by simp [erase_map l i]
/-! ### two objects at the store's end -/
theorem end1_get {a o o2 : MO} : (a :: (t ++ [o, o2]))[t.length + 1]? = some o := by simp
theorem end2_get {a o o2 : MO} : (a :: (t ++ [o, o2]))[t.length + 2]? = some o2 := by simp
theorem end1_set {a o o2 o' : MO} : (a :: (t ++ [o, o2])).set (t.length + 1) o' = a :: (t ++ [o', o2]) := by simp
theorem end2_set {a o o2 o' : MO} : (a :: (t ++ [o, o2])).set (t.length + 2) o' = a :: (t ++ [o, o']) := by simp
theorem shuf_w (K : Base G) {l : List Nat} (hp : p.Ok n) (hn : n + l.length < 1099511627776) (hl : l.length ≤ 1000) (h : ∀ (left fd : List Nat) p', p'.Ok (n + l.length) → fd.length = l.length → (∀ x ∈ fd, x ∈ l) → Q (.mu (t.length + 2)) (PnT.mo p' :: (t ++ [.lst (nD left), .lst (nD fd)]))) :
    Wp ((orcAt G (k+2)).fn "_law_shuffled" [.mu 0, .lst (nD l)] (PnT.mo p :: t)) Q := by
  have el : (nD l).length = l.length := by simp [nD]
  refine fn_w K._law_shuffled rfl rfl <| w_par <| w_rfl (a := [.mu (t.length + 1), .mu (t.length + 2)]) (s := PnT.mo p :: (t ++ [.lst (nD l), .lst []])) ?_ ⟨_, rfl, w_for <| w_rng <| w_es1 <| w_bi <| w_es1 <| w_rfl rfl <| w_rfl (len_row rfl) ⟨_, rng_len (by omega), ?_⟩⟩
  · refine r_esc (s1 := PnT.mo p :: (t ++ [.lst (nD l)])) rfl (r_es1 ?_)
    show R.ok (D.mu (PnT.mo p :: (t ++ [MO.lst (nD l)])).length) ((PnT.mo p :: (t ++ [MO.lst (nD l)])) ++ [MO.lst []]) = _
    simp
  refine loop_w (fun i e s => ∃ x4 left fd p', e = [some (.mu 0), some (.lst (nD l)), some (.mu (t.length + 1)), some (.mu (t.length + 2)), x4] ∧ s = PnT.mo p' :: (t ++ [.lst (nD left), .lst (nD fd)]) ∧ p'.Ok (n + i) ∧ left.length + i = l.length ∧ fd.length = i ∧ (∀ x ∈ left, x ∈ l) ∧ ∀ x ∈ fd, x ∈ l) (i := 0)
    ⟨none, l, [], p, rfl, rfl, hp, rfl, rfl, fun x hx => hx, fun x hx => by cases hx⟩ ?_ ?_
  · rintro j x e s hx ⟨x4, left, fd, p1, rfl, rfl, o1, hl1, hl2, h1, h2⟩
    obtain ⟨rfl, hj⟩ := nD_get hx
    rw [Nat.zero_add] at hl1 hl2 o1
    rw [el] at hj
    have ell : (nD left).length = left.length := by simp [nD]
    refine w_exp <| w_met <| w_rfl rfl ⟨by rw [thD_lst end2_get]; rfl, w_es1 <| w_met <| w_rfl rfl ⟨by rw [thD_lst end1_get]; rfl, w_es1 <| w_call <| w_esc <| w_rfl rfl <| w_es1 <| w_bi <| w_es1 <| w_rfl rfl <| w_rfl (len_row (thD_lst end1_get)) <| draw_w K o1 (by omega) (by omega) (szI_lt (k := 20) (by omega) (by omega)) ?_⟩⟩
    intro r p2 r0 r1 o2
    rw [ell] at r1
    have hr : r.toNat < left.length := by omega
    have hx : (nD left)[r.toNat]? = some (.int ((left[r.toNat] : Nat) : Int)) := by
      unfold nD
      rw [List.getElem?_map, List.getElem?_eq_getElem hr]
      rfl
    have hi : ixN (nD left).length r = some r.toNat := by
      unfold ixN
      rw [if_pos r0, if_pos (by omega)]
    have er : (nD left).eraseIdx r.toNat = nD (left.eraseIdx r.toNat) := by
      exact erase_map _ _
    refine w_rfl ((pop_ok end1_get hi hx).trans (by rw [end1_set, er])) ?_
    refine w_rfl ((app_ok end2_get rfl (by simp [nD]; omega)).trans (by rw [end2_set])) ?_
    refine w_nil ⟨_, rfl, _, left.eraseIdx r.toNat, fd ++ [left[r.toNat]], p2, rfl, by simp [nD], o2.mono (by omega), by rw [List.length_eraseIdx]; simp [hr]; omega, by simp; omega, fun x hx => h1 x (List.mem_of_mem_eraseIdx hx), fun x hx => ?_⟩
    rcases List.mem_append.mp hx with hx | hx
    · exact h2 x hx
    · simp only [List.mem_cons, List.not_mem_nil, or_false] at hx
      subst hx
      exact h1 _ (List.getElem_mem hr)
  · rintro e s ⟨x4, left, fd, p1, rfl, rfl, o1, hl1, hl2, h1, h2⟩
    have : (nD (List.range (nD l).length)).length = l.length := by simp [nD]
    exact kk_nx <| w_rtn <| w_rfl rfl <| ret_mu (by simp) (h left fd p1 (o1.mono (by omega)) (by omega) h2)
end
end Kin
end
section
set_option linter.all false
set_option maxRecDepth 100000
set_option maxHeartbeats 1000003
namespace Kin
open PySem Ev
variable {G : Gl}
/-! ### claims -/
inductive Clm where
  | pays (nm : Str) (qs : List Rat)
  | may (nm : Str) (rows : List (Nat × Rat))
def rowD (r : Nat × Rat) : D := .tup [.int (r.1 : Int), qD r.2]
def Clm.d : Clm → D
  | .pays nm qs => .tup [.str nm, .str "pays", .tup (qs.map qD)]
  | .may nm rows => .tup [.str nm, .str "may", .tup (rows.map rowD)]
def Clm.Ok (len : Nat) : Clm → Prop
  | .pays _ qs => qs.length = len ∧ ∀ q ∈ qs, RB 4 q
  | .may _ rows => rows ≠ [] ∧ ∀ r ∈ rows, r.1 < len ∧ RB 4 r.2
def zQ (i : Int) : Rat := ⟨i, 1, by decide, by simp⟩
theorem zQ_rb {i : Int} (h : i.natAbs < 16) : RB 4 (zQ i) := ⟨h, show (1 : Nat) < 2 ^ 4 by decide⟩
def zpair (a : Rat) : Prop := RB 4 a
theorem sortI_mem {x : Int} : ∀ {l : List Int}, x ∈ sortI l → x ∈ l := by
  have ins : ∀ (a : Int) (l : List Int), ∀ y ∈ insI a l, y = a ∨ y ∈ l := by
    intro a l
    induction l with
    | nil => intro y hy; simpa [insI] using hy
    | cons b l ih =>
      intro y hy
      unfold insI at hy
      split at hy
      · simpa using hy
      · rcases List.mem_cons.mp hy with rfl | hy
        · exact .inr (List.mem_cons_self ..)
        · rcases ih y hy with h | h
          · exact .inl h
          · exact .inr (List.mem_cons_of_mem _ h)
  intro l
  induction l with
  | nil => intro h; exact h
  | cons a l ih =>
    intro h
    rcases ins a (sortI l) x h with h | h
    · exact h ▸ List.mem_cons_self ..
    · exact List.mem_cons_of_mem _ (ih h)
theorem insI_len (a : Int) : ∀ l : List Int, (insI a l).length = l.length + 1
  | [] => rfl
  | b :: l => by
    unfold insI
    split
    · rfl
    · rw [List.length_cons, insI_len a l]; rfl
theorem sortI_len : ∀ l : List Int, (sortI l).length = l.length
  | [] => rfl
  | a :: l => by
    show (insI a (sortI l)).length = _
    rw [insI_len, sortI_len l]; rfl
theorem ints_nD (l : List Nat) : intsOf (nD l) = some (l.map fun (i : Nat) => (i : Int)) := by
  unfold nD
  induction l with
  | nil => rfl
  | cons a l ih =>
    show (intsOf (l.map fun (i : Nat) => D.int (i : Int))).map _ = _
    rw [ih]
    rfl
/-- the sorted row of small numbers -/
theorem sort_nD (l : List Nat) : ∃ m : List Nat, (sortI (l.map fun (i : Nat) => (i : Int))).map D.int = nD m ∧ m.length = l.length ∧ ∀ x ∈ m, x ∈ l := by
  refine ⟨(sortI (l.map fun (i : Nat) => (i : Int))).map Int.toNat, ?_, ?_, ?_⟩
  · unfold nD
    rw [List.map_map]
    refine List.map_congr_left fun x hx => ?_
    obtain ⟨i, _, rfl⟩ := List.mem_map.mp (sortI_mem hx)
    rfl
  · rw [List.length_map, sortI_len, List.length_map]
  · intro x hx
    obtain ⟨y, hy, rfl⟩ := List.mem_map.mp hx
    obtain ⟨i, hi, rfl⟩ := List.mem_map.mp (sortI_mem hy)
    exact hi
section
variable {k n : Nat} {p : PnT} {t : Sto} {Q : D → Sto → Prop}
theorem pays_w (K : Base G) {nm : Str} {ns : List Nd} {m : Nat} (hp : p.Ok n) (hn : n + 20 < 1099511627776) (hl : ns.length ≤ 6) (ht : t[m]? = some (.lst (ns.map Nd.d)))
    (h : ∀ (qs : List Rat) p', p'.Ok (n + 20) → Clm.Ok ns.length (.pays nm qs) → Q (Clm.d (.pays nm qs)) (PnT.mo p' :: t)) : Wp ((orcAt G (k+4)).fn "_law_claim" [.mu 0, .str nm, .str "pays", .mu (m + 1)] (PnT.mo p :: t)) Q := by
  have row : ∀ p' : PnT, Row (.mu (m + 1)) (ns.map Nd.d) (PnT.mo p' :: t) := fun p' => Row.mu (show t[m]? = _ from ht)
  refine fn_w K._law_claim rfl rfl <| w_itk (q := true) (s1 := PnT.mo p :: t) (by with_unfolding_all rfl) <| w_set <| w_call <| w_rfl rfl <| w_rfl (leaves_ok K (row p) (by omega)) <| w_rtn <| w_tup <| w_esc <| w_rfl rfl <| w_esc <| w_rfl rfl <| w_es1 <| w_bi <| w_es1 <| w_comp0 rfl <| w_rng <| w_es1 <| w_bi <| w_es1 <| w_rfl rfl <| w_rfl (len_row (row p).th) ⟨_, rng_len (by simp; omega), ?_⟩
  have el : (ns.map Nd.d).length = ns.length := by simp
  rw [el]
  refine loopC_m (fun (i : Nat) => D.int (i : Int)) qD (fun _ q => RB 4 q) (fun i s => ∃ p', s = PnT.mo p' :: t ∧ p'.Ok (n + 2 * i)) (i := 0) ⟨p, rfl, hp⟩ ?_ ?_
  · rintro j a s hj ⟨p1, rfl, o1⟩
    have hjl : j < ns.length := by
      have := (List.getElem?_eq_some_iff.mp hj).1
      simpa using this
    have yes : ∀ (p2 : PnT), p2.Ok (n + 2 * (0 + j) + 1) → Wp (evE (cxK G (k+3)) (.tup (.cons (.bin .Sub (.call "_law_draw" (.cons (.v 0) (.cons (.c (.int 6)) .nil))) (.c (.int 1))) (.cons (.c (.int 1)) .nil))) [some (.mu 0), some (.str nm), some (.str "pays"), some (.mu (m + 1)), some (.lst (nD (leavesL (PS ns)))), none, some (.int (a : Int))] (PnT.mo p2 :: t)) (fun d s1 => Wp (frzD d s1) fun d s2 => ∃ b, some d = some (qD b) ∧ RB 4 b ∧ ∃ p', s2 = PnT.mo p' :: t ∧ p'.Ok (n + 2 * (0 + j + 1))) := by
      intro p2 o2
      refine w_tup <| w_esc <| w_bin <| w_call <| w_rfl rfl <| draw_w K o2 (by omega) (by omega) rfl ?_
      intro r p3 r0 r1 o3
      exact w_rfl rfl <| w_rfl rfl <| w_es1 <| w_rfl rfl <| w_rfl rfl <| w_rfl rfl ⟨zQ (r - 1), rfl, zQ_rb (by omega), p3, rfl, o3.mono (by omega)⟩
    refine ct_elt rfl <| w_ife <| v_or <| v_cmp <| w_rfl rfl <| w_rfl rfl <| w_rfl (in_nl _ a _) ⟨fun _ => ⟨fun _ => yes p1 (o1.mono (by omega)), fun z => nomatch z⟩, fun _ => ?_⟩
    refine v_cmp <| w_call <| w_rfl rfl <| draw_w K o1 (by omega) (by omega) rfl ?_
    intro r p2 r0 r1 o2
    refine w_rfl rfl <| w_rfl (eq_int r 0 _) ⟨fun _ => yes p2 o2, fun _ => ?_⟩
    exact w_rfl rfl <| w_rfl rfl ⟨zQ 0, rfl, zQ_rb (by decide), p2, rfl, o2.mono (by omega)⟩
  · rintro qs s hq ⟨p1, rfl, o1⟩
    have hlen := hq.len
    simp only [List.length_range] at hlen
    refine ⟨by rw [List.length_map]; omega, w_rfl rfl <| w_rfl rfl <| w_rfl rfl <| ret_w rfl rfl (h qs p1 (o1.mono (by simp; omega)) ⟨hlen.symm, hq.right fun _ _ h => h⟩)⟩
theorem may_w (K : Base G) {nm : Str} {ns : List Nd} {m : Nat} (hp : p.Ok n) (hn : n + 40 < 1099511627776) (h0 : 0 < ns.length) (hl : ns.length ≤ 6) (ht : t[m]? = some (.lst (ns.map Nd.d)))
    (h : ∀ (rs : List (Nat × Rat)) p', p'.Ok (n + 40) → Clm.Ok ns.length (.may nm rs) → Q (Clm.d (.may nm rs)) (PnT.mo p' :: t)) : Wp ((orcAt G (k+4)).fn "_law_claim" [.mu 0, .str nm, .str "may", .mu (m + 1)] (PnT.mo p :: t)) Q := by
  have row : ∀ p' : PnT, Row (.mu (m + 1)) (ns.map Nd.d) (PnT.mo p' :: t) := fun p' => Row.mu (show t[m]? = _ from ht)
  have el : (ns.map Nd.d).length = ns.length := by simp
  have elr : evE (cxK G (k+3)) (.lrg false (.cons (.bi .len (.cons (.v 3) .nil)) .nil)) [some (.mu 0), some (.str nm), some (.str "may"), some (.mu (m + 1)), none, none, none] (PnT.mo p :: t) = .ok (.lst (nD (List.range ns.length))) (PnT.mo p :: t) := by
    show bnd (evEs (cxK G (k+3)) (.cons (.bi .len (.cons (.v 3) .nil)) .nil) _) _ _ = _
    rw [bnd_ok (r_es1 (r_bi (r_es1 rfl) (len_row (row p).th))), el, rng_len (by omega)]
    rfl
  refine fn_w K._law_claim rfl rfl <| w_by (s1 := PnT.mo p :: t) (by with_unfolding_all rfl) <| w_set <| w_mkb <| w_es1 <| w_sl <| w_call <| w_esc <| w_rfl rfl <| w_es1 <| w_rfl elr <| shuf_w K hp (by simp; omega) (by simp; omega) ?_
  intro left fd p1 o1 hfd hin
  simp only [List.length_range] at hfd o1
  refine w_esn ⟨none, rfl, w_es1 <| w_bin <| w_rfl rfl <| w_call <| w_rfl rfl <| draw_w K o1 (by omega) (by omega) rfl ?_⟩
  intro r p2 r0 r1 o2
  refine w_rfl rfl ⟨some (1 + r), rfl, ?_⟩
  have ecut : cutD (nD fd) none (some (1 + r)) = nD (fd.take (min (1 + r).toNat fd.length)) := by
    have hneg : ¬ (1 + r < 0) := by omega
    simp only [cutD, sIx, hneg, if_false, List.length_map, nD, List.drop_zero, Nat.sub_zero, List.map_take]
  refine w_rfl (a := .lst (nD (fd.take (min (1 + r).toNat fd.length)))) (s := PnT.mo p2 :: (t ++ [.lst (nD left), .lst (nD fd)])) ?_ ?_
  · unfold cutO
    rw [thD_lst end2_get]
    show alloc false (.lst (cutD (nD fd) none (some (1 + r)))) _ = _
    rw [ecut]
    rfl
  obtain ⟨ms, e1, e2, e3⟩ := sort_nD (fd.take (min (1 + r).toNat fd.length))
  have hml : ms.length ≠ 0 := by
    rw [e2, List.length_take]
    omega
  have hms : ∀ x ∈ ms, x < ns.length := fun x hx => by
    have := hin x (List.mem_of_mem_take (e3 x hx))
    simpa using this
  have hml6 : ms.length ≤ 6 := by
    rw [e2, List.length_take]
    omega
  refine w_rfl (a := .lst (nD ms)) (s := PnT.mo p2 :: (t ++ [.lst (nD left), .lst (nD fd)])) ?_ ?_
  · refine mk_ok (o := .lst (nD ms)) ?_
    show (intsOf (nD (fd.take (min (1 + r).toNat fd.length)))).map (fun is => MO.lst ((sortI is).map .int)) = _
    rw [ints_nD]
    show some (MO.lst ((sortI _).map D.int)) = _
    rw [e1]
  refine w_rtn <| w_tup <| w_esc <| w_rfl rfl <| w_esc <| w_rfl rfl <| w_es1 <| w_bi <| w_es1 <| w_comp0 rfl <| w_seq <| w_rfl rfl <| w_rfl rfl ⟨nD ms, rfl, ?_⟩
  refine loopC_m (fun (i : Nat) => D.int (i : Int)) rowD (fun a b => b.1 = a ∧ RB 4 b.2) (fun i s => ∃ p', s = PnT.mo p' :: (t ++ [.lst (nD left), .lst (nD fd)]) ∧ p'.Ok (n + 10 + 2 * i)) (i := 0) ⟨p2, rfl, o2.mono (by omega)⟩ ?_ ?_
  · rintro j a s hj ⟨p3, rfl, o3⟩
    have hjl : j < ms.length := (List.getElem?_eq_some_iff.mp hj).1
    refine ct_elt rfl <| w_tup <| w_esc <| w_rfl rfl <| w_es1 <| w_call <| w_esc <| w_bin <| w_call <| w_rfl rfl <| draw_w K o3 (by omega) (by omega) rfl ?_
    intro r p4 r0 r1 o4
    refine w_rfl rfl <| w_rfl rfl <| w_es1 <| w_call <| w_rfl rfl <| pick_w K o4 (by omega) (by simp) (by simp) rfl ?_
    intro d hd p5 o5
    simp only [List.mem_cons, List.not_mem_nil, or_false] at hd
    have hd2 : ∃ b : Int, d = .int b ∧ 1 ≤ b ∧ b ≤ 2 := by
      rcases hd with h | h | h <;> exact ⟨_, h, by decide, by decide⟩
    obtain ⟨b, rfl, b0, b1⟩ := hd2
    exact w_rfl (qq_ok K _ (r - 1) b _ (by omega) (szI_lt (k := 20) (by omega) (by omega))) <| w_rfl rfl <| w_rfl rfl ⟨(a, Rat.divInt (r - 1) b), rfl, ⟨rfl, RB.div (by omega) (by omega) (by omega)⟩, p5, rfl, o5.mono (by omega)⟩
  · rintro rs s hq ⟨p3, rfl, o3⟩
    have hlen := hq.len
    refine ⟨by rw [List.length_map]; omega, w_rfl rfl <| w_rfl rfl <| w_rfl rfl ?_⟩
    have : ∀ (ms : List Nat) (rs : List (Nat × Rat)), F2 (fun a b => b.1 = a ∧ RB 4 b.2) ms rs → (∀ x ∈ ms, x < ns.length) → ∀ r ∈ rs, r.1 < ns.length ∧ RB 4 r.2 := by
      intro ms rs h
      induction h with
      | nil => intro _ r hr; cases hr
      | cons h _ ih =>
        intro hx r hr
        rcases List.mem_cons.mp hr with rfl | hr
        · exact ⟨h.1 ▸ hx _ (List.mem_cons_self ..), h.2⟩
        · exact ih (fun x hx' => hx x (List.mem_cons_of_mem _ hx')) r hr
    refine ret_cut (s := PnT.mo p3 :: t) (j := [.lst (nD left), .lst (nD fd)]) rfl rfl (h rs p3 (o3.mono (by simp; omega)) ⟨fun z => ?_, this ms rs hq hms⟩)
    subst z
    exact hml hlen
end
end Kin
end
section
set_option linter.all false
set_option maxRecDepth 100000
set_option maxHeartbeats 1000003
namespace Kin
open PySem Ev
variable {G : Gl}
/-! ### asks and books -/
def bK : List Ky := [.inr "things", .inr "nodes", .inr "limits", .inr "claims", .inr "asks"]
def Clm.isMay : Clm → Bool
  | .pays _ _ => false
  | .may _ _ => true
def wordsL : List Str := ["gains", "whole", "cost", "cost", "worth", "copies", "early", "takes"]
def wordsD : List D := wordsL.map .str
theorem words_in : ∀ w ∈ wordsL, ∃ em gw : Bool, (∀ s, cmpD .In (.str w) (.tup [.str "early", .str "takes"]) s = .ok em s) ∧ ∀ s, cmpD .In (.str w) (.tup [.str "gains", .str "whole"]) s = .ok gw s := by
  intro w hw
  simp only [wordsL, List.mem_cons, List.not_mem_nil, or_false] at hw
  rcases hw with rfl | rfl | rfl | rfl | rfl | rfl | rfl | rfl <;> exact ⟨_, _, fun s => by with_unfolding_all rfl, fun s => by with_unfolding_all rfl⟩
theorem eq_bl (a b : Bool) (s : Sto) : cmpD .Eq (.bl a) (.bl b) s = .ok (a == b) s := by
  cases a <;> cases b <;> with_unfolding_all rfl
theorem clm_word (c : Clm) (X : Cx') (e : En) (s : Sto) (h : e[8]? = some (some c.d)) : evE X (.cmp .Eq (.ix (.v 8) (.c (.int 1))) (.c (.str "may"))) e s = .ok (.bl c.isMay) s := by
  have h1 : evE X (.v 8) e s = .ok c.d s := by
    show (match e[8]? with | some (some d) => Ev.ret d | _ => Ev.no) s = _
    rw [h]
    rfl
  cases c with
  | pays nm qs => exact r_cmp (x := .str "pays") (y := .str "may") (s1 := s) (s2 := s) (r_ix h1 rfl rfl) rfl (by with_unfolding_all rfl)
  | may nm qs => exact r_cmp (x := .str "may") (y := .str "may") (s1 := s) (s2 := s) (r_ix h1 rfl rfl) rfl (by with_unfolding_all rfl)
def fitL (cls : List Clm) (em : Bool) : List Nat := cls.zipIdx.filterMap fun p => if (p.1.isMay == em) = true then some p.2 else none
theorem fit_map (cls : List Clm) (em : Bool) : (cls.zipIdx.filterMap fun p => if (p.1.isMay == em) = true then some (D.int (p.2 : Int)) else none) = nD (fitL cls em) := by
  unfold nD fitL
  rw [List.map_filterMap]
  congr 1
  funext p
  cases (p.1.isMay == em) <;> rfl
theorem fit_len (cls : List Clm) (em : Bool) : (fitL cls em).length ≤ cls.length := by
  unfold fitL
  refine Nat.le_trans (List.length_filterMap_le ..) ?_
  simp
section
variable {k n : Nat} {p : PnT} {t : Sto} {Q : D → Sto → Prop}
theorem asks_w (K : Base G) {cls : List Clm} {m most : Nat} {d1 d2 d3 d5 : D} (hp : p.Ok n) (hn : n + 40 < 1099511627776) (hm0 : 0 < most) (hm : most ≤ 3) (hc : cls.length ≤ 3) (ht : t[m]? = some (.dct bK [d1, d2, d3, .lst (cls.map Clm.d), d5]))
    (h : ∀ (as : List D) p', p'.Ok (n + 40) → as.length ≤ 10 → Q (.mu (t.length + 1)) (PnT.mo p' :: (t ++ [.lst as]))) : Wp ((orcAt G (k+3)).fn "_law_some_asks" [.mu 0, .mu (m + 1), .int (most : Int)] (PnT.mo p :: t)) Q := by
  have hmt : m < t.length := (List.getElem?_eq_some_iff.mp ht).1
  refine fn_w K._law_some_asks rfl rfl <| w_set <| w_rfl (a := .mu (t.length + 1)) (s := PnT.mo p :: (t ++ [MO.lst []])) rfl <| w_for <| w_rng <| w_es1 <| w_bin <| w_rfl rfl <| w_call <| w_rfl rfl <| draw_w K (t := t ++ [MO.lst []]) hp (m := (most : Int)) (by omega) (by omega) (szI_lt (k := 20) (by omega) (by omega)) ?_
  intro r p1 r0 r1 o1
  obtain ⟨r, rfl⟩ : ∃ m : Nat, r = m := ⟨r.toNat, by omega⟩
  have er : (1 : Int) + (r : Int) = ((r + 1 : Nat) : Int) := by omega
  refine w_rfl (a := .int ((r + 1 : Nat) : Int)) (by rw [← er]; rfl) ⟨_, rng_len (by omega), ?_⟩
  refine loop_w (fun i e s => ∃ x4 x5 x6 x7 x8, ∃ as : List D, ∃ p', e = [some (.mu 0), some (.mu (m + 1)), some (.int (most : Int)), some (.mu (t.length + 1)), x4, x5, x6, x7, x8] ∧ s = PnT.mo p' :: (t ++ [.lst as]) ∧ p'.Ok (n + 1 + 5 * i) ∧ as.length = i) (i := 0)
    ⟨none, none, none, none, none, [], p1, rfl, rfl, o1, rfl⟩ ?_ ?_
  · rintro j x e s hx ⟨x4, x5, x6, x7, x8, as, p1, rfl, rfl, o1, hl⟩
    obtain ⟨rfl, hj⟩ := nD_get hx
    rw [Nat.zero_add] at hl o1
    refine w_set <| w_call <| w_rfl rfl <| pick_w K (xs := wordsD) o1 (by omega) (by decide) (by decide) (by rfl) ?_
    intro d hd p2 o2
    obtain ⟨w, hw, rfl⟩ := List.mem_map.mp hd
    obtain ⟨em, gw, hem, hgw⟩ := words_in w hw
    have hfl := fit_len cls em
    have eb : evE (cxK G (k+2)) (.ix (.v 1) (.c (.str "claims"))) [some (.mu 0), some (.mu (m + 1)), some (.int (most : Int)), some (.mu (t.length + 1)), some (.int (j : Int)), some (.str w), x6, x7, x8] (PnT.mo p2 :: (t ++ [.lst as])) = .ok (.lst (cls.map Clm.d)) (PnT.mo p2 :: (t ++ [.lst as])) := by
      refine r_ix (x := .mu (m + 1)) (y := .str "claims") rfl rfl ?_
      have : (PnT.mo p2 :: (t ++ [.lst as]))[m + 1]? = some (.dct bK [d1, d2, d3, .lst (cls.map Clm.d), d5]) := by
        show (t ++ [MO.lst as])[m]? = _
        rw [List.getElem?_append_left hmt]
        exact ht
      show opD (getO (thD (.mu (m + 1)) _) _) _ = _
      rw [thD_dct this]
      with_unfolding_all rfl
    have ef : evE (cxK G (k+2)) (.comp false [("k", 7), ("claim", 8)] (.tup (.cons (.name 7) (.cons (.name 8) .nil))) (.enum (.ix (.v 1) (.c (.str "claims")))) (.cons (.cmp .Eq (.cmp .Eq (.ix (.v 8) (.c (.int 1))) (.c (.str "may"))) (.cmp .In (.v 5) (.tup (.cons (.c (.str "early")) (.cons (.c (.str "takes")) .nil))))) .nil) (.v 7))
        [some (.mu 0), some (.mu (m + 1)), some (.int (most : Int)), some (.mu (t.length + 1)), some (.int (j : Int)), some (.str w), x6, x7, x8] (PnT.mo p2 :: (t ++ [.lst as])) = .ok (.lst (nD (fitL cls em))) (PnT.mo p2 :: (t ++ [.lst as])) := by
      refine r_comp (xs := cls.zipIdx.map fun p => .tup [.int (p.2 : Int), p.1.d]) (h := none) (s1 := PnT.mo p2 :: (t ++ [.lst as])) (ys := nD (fitL cls em)) ?_ ?_ (by unfold nD; rw [List.length_map]; omega) rfl rfl
      · show bnd (evE _ (.ix (.v 1) (.c (.str "claims"))) _) _ _ = _
        rw [bnd_ok eb]
        show R.ok ((((cls.map Clm.d).zipIdx).map fun p => D.tup [.int p.2, p.1]), none) _ = _
        rw [List.zipIdx_map, List.map_map]
        rfl
      · rw [← fit_map]
        refine loopC_pm (fun p : Clm × Nat => D.tup [.int (p.2 : Int), p.1.d]) _ fun p _ => ?_
        exact c_if (q := p.1.isMay == em) rfl (tt_cmp (clm_word p.1 _ _ _ rfl) (r_cmp rfl rfl (hem _)) (eq_bl _ _ _)) (fun _ => rfl) fun _ => rfl
    have fin : ∀ (v : List D) (p3 : PnT), p3.Ok (n + 1 + 5 * j + 4) → Wp (metD (.mu (t.length + 1)) .append [.tup v] (PnT.mo p3 :: (t ++ [.lst as]))) (fun _ s1 => Wp (evSs (cxK G (k+2)) .nil [some (.mu 0), some (.mu (m + 1)), some (.int (most : Int)), some (.mu (t.length + 1)), some (.int (j : Int)), some (.str w), some (.lst (nD (fitL cls em))), x7, x8] s1) (KK (cxK G (k+2)) .nil (fun fl s' => ∃ e', fl = .nx e' ∧ ∃ x4 x5 x6 x7 x8, ∃ as : List D, ∃ p', e' = [some (.mu 0), some (.mu (m + 1)), some (.int (most : Int)), some (.mu (t.length + 1)), x4, x5, x6, x7, x8] ∧ s' = PnT.mo p' :: (t ++ [.lst as]) ∧ p'.Ok (n + 1 + 5 * (0 + j + 1)) ∧ as.length = 0 + j + 1))) := by
      intro v p3 o3
      exact end_app rfl (by omega) (w_nil <| kk_nx <| w_nil ⟨_, rfl, _, _, _, x7, x8, as ++ [.tup v], p3, rfl, rfl, o3.mono (by omega), by rw [List.length_append, hl, List.length_singleton]; omega⟩)
    have mb : ∀ p2 : PnT, metB .append (thD (.mu (t.length + 1)) (PnT.mo p2 :: (t ++ [.lst as]))) = true := fun p2 => by rw [thD_lst end_get]; rfl
    have one : Wp (evSs (cxK G (k+2)) (.cons (.exp (.met (.v 3) .append (.cons (.tup (.cons (.call "_law_pick" (.cons (.v 0) (.cons (.lst false (.cons (.c (.str "gains")) (.cons (.c (.str "whole")) .nil))) .nil))) .nil)) .nil))) .nil)
        [some (.mu 0), some (.mu (m + 1)), some (.int (most : Int)), some (.mu (t.length + 1)), some (.int (j : Int)), some (.str w), some (.lst (nD (fitL cls em))), x7, x8] (PnT.mo p2 :: (t ++ [.lst as]))) (KK (cxK G (k+2)) .nil (fun fl s' => ∃ e', fl = .nx e' ∧ ∃ x4 x5 x6 x7 x8, ∃ as : List D, ∃ p', e' = [some (.mu 0), some (.mu (m + 1)), some (.int (most : Int)), some (.mu (t.length + 1)), x4, x5, x6, x7, x8] ∧ s' = PnT.mo p' :: (t ++ [.lst as]) ∧ p'.Ok (n + 1 + 5 * (0 + j + 1)) ∧ as.length = 0 + j + 1)) := by
      refine w_exp <| w_met <| w_rfl rfl ⟨mb p2, w_es1 <| w_tup <| w_es1 <| w_call <| w_rfl rfl <| pick_w K o2 (by omega) (by simp) (by simp) rfl ?_⟩
      intro d hd p3 o3
      have hd2 : plainD d = true := by
        simp only [List.mem_cons, List.not_mem_nil, or_false] at hd
        rcases hd with rfl | rfl <;> rfl
      refine w_rfl (frzs_plain (xs := [d]) ?_) (fin [d] p3 (o3.mono (by omega)))
      intro y hy
      simp only [List.mem_cons, List.not_mem_nil, or_false] at hy
      exact hy ▸ hd2
    refine w_set <| w_rfl ef <| w_ite <| v_or <| v_cmp <| w_rfl rfl <| w_rfl rfl <| w_rfl (hgw _) ⟨fun _ => ⟨fun _ => one, fun z => nomatch z⟩, fun _ => ?_⟩
    refine v_cmp <| w_rfl rfl <| w_rfl rfl <| w_rfl (eq_nl _ (fitL cls em) []) ⟨fun _ => one, fun hne => ?_⟩
    have hne := of_decide_eq_false hne
    have h0 : 0 < (fitL cls em).length := List.length_pos_iff.mpr hne
    refine w_exp <| w_met <| w_rfl rfl ⟨mb p2, w_es1 <| w_tup <| w_esc <| w_rfl rfl <| w_es1 <| w_call <| w_rfl rfl <| pick_w K (xs := nD (fitL cls em)) o2 (by omega) (by simpa [nD] using h0) (by simp [nD]; omega) ?_ ?_⟩
    · unfold nD
      rw [List.all_map, List.all_eq_true]
      intro q _
      rfl
    · intro d hd p3 o3
      obtain ⟨i, _, rfl⟩ := List.mem_map.mp hd
      exact w_rfl rfl (fin _ p3 (o3.mono (by omega)))
  · rintro e s ⟨x4, x5, x6, x7, x8, as, p1, rfl, rfl, o1, hl⟩
    have : (nD (List.range (r + 1))).length = r + 1 := by simp [nD]
    exact kk_nx <| w_rtn <| w_rfl rfl <| ret_mu (by simp) (h as p1 (o1.mono (by omega)) (by omega))
end
end Kin
end
section
set_option linter.all false
set_option maxRecDepth 100000
set_option maxHeartbeats 1000003
namespace Kin
open PySem Ev
variable {G : Gl}
structure Bk where
  nt : Nat
  ns : List Nd
  lims : List (Option Rat × Option Rat)
  cls : List Clm
  asks : List D
def thingsD (nt : Nat) : D := if nt = 1 then .tup [.str "s"] else .tup [.str "s", .str "t"]
def Bk.ds (b : Bk) : List D := [thingsD b.nt, .lst (b.ns.map Nd.d), .lst (b.lims.map limD), .lst (b.cls.map Clm.d), .lst b.asks]
structure Bk.Ok (b : Bk) : Prop where
  nt : b.nt = 1 ∨ b.nt = 2
  ns : NsOk b.nt b.ns
  l1 : 1 ≤ b.ns.length
  l6 : b.ns.length ≤ 6
  ll : b.lims.length = b.nt
  lim : ∀ l ∈ b.lims, LimOk l
  cl : ∃ q0 r0, b.cls = [.pays "c0" q0, .may "e0" r0] ∨ ∃ q1, b.cls = [.pays "c0" q0, .may "e0" r0, .pays "c1" q1]
  ck : ∀ c ∈ b.cls, c.Ok b.ns.length
  ak : b.asks.length ≤ 10
theorem things_len {nt : Nat} (h : nt = 1 ∨ nt = 2) (s : Sto) : biD .len [thingsD nt] s = .ok (.int (nt : Int)) s := by
  rcases h with rfl | rfl <;> with_unfolding_all rfl
theorem things_plain (nt : Nat) : plainD (thingsD nt) = true := by
  unfold thingsD
  split <;> rfl
theorem frzs_cons {d : D} {ds ys : List D} {y : D} {s s1 s2 : Sto} (h1 : frzD d s = .ok y s1) (h2 : frzDs ds s1 = .ok ys s2) : frzDs (d :: ds) s = .ok (y :: ys) s2 := by
  show bnd (frzD d) _ s = _
  rw [bnd_ok h1, bnd_ok h2]
  rfl
section
variable {k n : Nat} {p : PnT} {t : Sto} {Q : D → Sto → Prop}
def restB : Ss := .cons (.asg (.name 6) (.lst true (.cons (.call "_law_claim" (.cons (.v 0) (.cons (.c (.str "c0")) (.cons (.c (.str "pays")) (.cons (.v 4) .nil))))) (.cons (.call "_law_claim" (.cons (.v 0) (.cons (.c (.str "e0")) (.cons (.c (.str "may")) (.cons (.v 4) .nil))))) .nil))))
  (.cons (.ite (.cmp .Eq (.call "_law_draw" (.cons (.v 0) (.cons (.c (.int 2)) .nil))) (.c (.int 0))) (.cons (.exp (.met (.v 6) .append (.cons (.call "_law_claim" (.cons (.v 0) (.cons (.c (.str "c1")) (.cons (.c (.str "pays")) (.cons (.v 4) .nil))))) .nil)))
  .nil) .nil)
  (.cons (.asg (.name 7) (.dct true [.inr "things", .inr "nodes", .inr "limits", .inr "claims", .inr "asks"] (.cons (.v 5) (.cons (.v 4) (.cons (.call "_law_limits" (.cons (.v 0) (.cons (.bi .len (.cons (.v 5) .nil)) (.cons (.v 2) .nil)))) (.cons (.v 6) (.cons (.lst false .nil) .nil)))))))
  (.cons (.asg (.ix (.v 7) (.c (.str "asks"))) (.call "_law_some_asks" (.cons (.v 0) (.cons (.v 7) (.cons (.v 3) .nil)))))
  (.cons (.rtn (.v 7))
  .nil))))
def junkB (b : Bk) : Sto := [.fr (.lst (b.ns.map Nd.d)), .fr (.lst (b.cls.map Clm.d)), .fr (.lst (b.lims.map limD)), .dct bK b.ds, .fr (.lst b.asks)]
theorem rest_w (K : Base G) {nt most : Nat} {w sm : Bool} {ns : List Nd} (hp : p.Ok n) (hn : n + 200 < 1099511627776) (hm0 : 0 < most) (hm : most ≤ 3) (hnt : nt = 1 ∨ nt = 2) (hns : NsOk nt ns) (l1 : 1 ≤ ns.length) (l6 : ns.length ≤ 6)
    (h : ∀ (b : Bk) p', p'.Ok (n + 200) → b.Ok → Q (.mu (t.length + 4)) (PnT.mo p' :: (t ++ junkB b))) :
    Wp (evSs (cxK G (k+4)) restB [some (.mu 0), some (.bl w), some (.bl sm), some (.int (most : Int)), some (.mu (t.length + 1)), some (thingsD nt), none, none] (PnT.mo p :: (t ++ [.lst (ns.map Nd.d)]))) (Ret (PnT.mo p :: t).length Q) := by
  have ht : (t ++ [MO.lst (ns.map Nd.d)])[t.length]? = some (.lst (ns.map Nd.d)) := by simp
  refine w_set <| w_lst <| w_esc <| w_call <| w_rfl rfl <| pays_w K (ns := ns) (m := t.length) hp (by omega) l6 ht ?_
  intro q0 p1 o1 k0
  refine w_es1 <| w_call <| w_rfl rfl <| may_w K (ns := ns) (m := t.length) o1 (by omega) l1 l6 ht ?_
  intro r0 p2 o2 k1
  refine w_rfl rfl <| w_rfl (a := .mu (t.length + 2)) (s := PnT.mo p2 :: (t ++ [.lst (ns.map Nd.d), .lst [Clm.d (.pays "c0" q0), Clm.d (.may "e0" r0)]])) ?_ ?_
  · show R.ok (D.mu (PnT.mo p2 :: (t ++ [.lst (ns.map Nd.d)])).length) ((PnT.mo p2 :: (t ++ [.lst (ns.map Nd.d)])) ++ [MO.lst [Clm.d (.pays "c0" q0), Clm.d (.may "e0" r0)]]) = _
    simp
  have fin : ∀ (cls : List Clm) (p3 : PnT), p3.Ok (n + 90) → (∃ q0 r0, cls = [.pays "c0" q0, .may "e0" r0] ∨ ∃ q1, cls = [.pays "c0" q0, .may "e0" r0, .pays "c1" q1]) → (∀ c ∈ cls, c.Ok ns.length) →
      Wp (evSs (cxK G (k+4)) (.cons (.asg (.name 7) (.dct true [.inr "things", .inr "nodes", .inr "limits", .inr "claims", .inr "asks"] (.cons (.v 5) (.cons (.v 4) (.cons (.call "_law_limits" (.cons (.v 0) (.cons (.bi .len (.cons (.v 5) .nil)) (.cons (.v 2) .nil)))) (.cons (.v 6) (.cons (.lst false .nil) .nil)))))))
  (.cons (.asg (.ix (.v 7) (.c (.str "asks"))) (.call "_law_some_asks" (.cons (.v 0) (.cons (.v 7) (.cons (.v 3) .nil)))))
  (.cons (.rtn (.v 7))
  .nil))) [some (.mu 0), some (.bl w), some (.bl sm), some (.int (most : Int)), some (.mu (t.length + 1)), some (thingsD nt), some (.mu (t.length + 2)), none] (PnT.mo p3 :: (t ++ [.lst (ns.map Nd.d), .lst (cls.map Clm.d)]))) (Ret (PnT.mo p :: t).length Q) := by
    intro cls p3 o3 hcl hck
    refine w_set <| w_dct <| w_esc <| w_rfl rfl <| w_esc <| w_rfl rfl <| w_esc <| w_call <| w_esc <| w_rfl rfl <| w_esc <| w_bi <| w_es1 <| w_rfl rfl <| w_rfl (things_len hnt _) <| w_rfl rfl <| limits_w K (nt := nt) (w := sm) (t := t ++ [MO.lst (ns.map Nd.d), MO.lst (cls.map Clm.d)]) o3 (by omega) (by omega) ?_
    intro ls p4 o4 hll hlim
    have e1 : (t ++ [MO.lst (ns.map Nd.d), .lst (cls.map Clm.d)]).length + 1 = t.length + 3 := by simp
    have e2 : (t ++ [MO.lst (ns.map Nd.d), .lst (cls.map Clm.d)]) ++ [MO.lst (ls.map limD)] = t ++ [.lst (ns.map Nd.d), .lst (cls.map Clm.d), .lst (ls.map limD)] := by simp
    rw [e1, e2]
    refine w_rfl (a := [.mu (t.length + 2), .lst []]) (s := PnT.mo p4 :: (t ++ [.lst (ns.map Nd.d), .lst (cls.map Clm.d), .lst (ls.map limD)])) rfl ?_
    refine w_rfl (a := [thingsD nt, .lst (ns.map Nd.d), .lst (ls.map limD), .lst (cls.map Clm.d), .lst []]) (s := PnT.mo p4 :: (t ++ [.fr (.lst (ns.map Nd.d)), .fr (.lst (cls.map Clm.d)), .fr (.lst (ls.map limD))])) ?_ ?_
    · refine frzs_cons (frz_plain (things_plain nt) _) <| frzs_cons (frz_lst (xs := ns.map Nd.d) (by simp)) <| frzs_cons (frz_lst (xs := ls.map limD) (by simp)) <| frzs_cons (frz_lst (xs := cls.map Clm.d) (by simp)) ?_
      show R.ok _ _ = _
      simp
    refine ⟨by with_unfolding_all rfl, w_rfl (a := .mu (t.length + 4)) (s := PnT.mo p4 :: ((t ++ [.fr (.lst (ns.map Nd.d)), .fr (.lst (cls.map Clm.d)), .fr (.lst (ls.map limD))]) ++ [MO.dct bK [thingsD nt, .lst (ns.map Nd.d), .lst (ls.map limD), .lst (cls.map Clm.d), .lst []]])) ?_ ?_⟩
    · show R.ok (D.mu (PnT.mo p4 :: (t ++ [MO.fr (.lst (ns.map Nd.d)), .fr (.lst (cls.map Clm.d)), .fr (.lst (ls.map limD))])).length) _ = _
      simp
      rfl
    have hc3 : cls.length ≤ 3 := by
      obtain ⟨q0, r0, h | ⟨q1, h⟩⟩ := hcl <;> rw [h] <;> simp
    refine w_asg <| w_call <| w_rfl rfl <| asks_w K (cls := cls) (m := t.length + 3) (most := most) (d1 := thingsD nt) (d2 := .lst (ns.map Nd.d)) (d3 := .lst (ls.map limD)) (d5 := .lst []) o4 (by omega) hm0 hm hc3 (by simp) ?_
    intro as p5 o5 ha
    have e3 : ((t ++ [MO.fr (.lst (ns.map Nd.d)), .fr (.lst (cls.map Clm.d)), .fr (.lst (ls.map limD))]) ++ [MO.dct bK [thingsD nt, .lst (ns.map Nd.d), .lst (ls.map limD), .lst (cls.map Clm.d), .lst []]]).length + 1 = t.length + 5 := by simp
    rw [e3]
    let b : Bk := ⟨nt, ns, ls, cls, as⟩
    refine w_rfl (a := [some (.mu 0), some (.bl w), some (.bl sm), some (.int (most : Int)), some (.mu (t.length + 1)), some (thingsD nt), some (.mu (t.length + 2)), some (.mu (t.length + 4))]) (s := PnT.mo p5 :: (t ++ junkB b)) ?_ ?_
    · have hs := set_dct (m := t.length + 4) (b := .str "asks") (v := .mu (t.length + 5)) (v' := .lst as) (k := .inr "asks") (ks := bK) (xs := [thingsD nt, .lst (ns.map Nd.d), .lst (ls.map limD), .lst (cls.map Clm.d), .lst []])
        (s := PnT.mo p5 :: (((t ++ [MO.fr (.lst (ns.map Nd.d)), .fr (.lst (cls.map Clm.d)), .fr (.lst (ls.map limD))]) ++ [MO.dct bK [thingsD nt, .lst (ns.map Nd.d), .lst (ls.map limD), .lst (cls.map Clm.d), .lst []]]) ++ [.lst as])) (frz_lst (xs := as) (by simp)) (by simp) rfl (by decide)
      show bnd (fun s => setD (.mu (t.length + 4)) (.str "asks") (.mu (t.length + 5)) s) _ _ = _
      rw [bnd_ok hs]
      have hput : putK bK [thingsD nt, .lst (ns.map Nd.d), .lst (ls.map limD), .lst (cls.map Clm.d), .lst []] (.inr "asks") (.lst as) = (bK, b.ds) := by with_unfolding_all rfl
      rw [hput]
      show R.ok _ _ = R.ok _ _
      simp [junkB, b]
      rfl
    · exact w_rtn <| w_rfl rfl <| ret_mu (by simp) (h b p5 (o5.mono (by omega)) ⟨hnt, hns, l1, l6, hll, hlim, hcl, hck, ha⟩)
  refine w_ite <| v_cmp <| w_call <| w_rfl rfl <| draw_w K o2 (by omega) (by omega) rfl ?_
  intro r p3 g0 g1 o3
  refine w_rfl rfl <| w_rfl (eq_int r 0 _) ⟨fun _ => ?_, fun _ => ?_⟩
  · refine w_exp <| w_met <| w_rfl rfl ⟨by rw [thD_lst end2_get]; rfl, w_es1 <| w_call <| w_rfl rfl <| pays_w K (ns := ns) (m := t.length) o3 (by omega) l6 (by simp) ?_⟩
    intro q1 p4 o4 k2
    refine w_rfl ((app_ok end2_get rfl (by simp)).trans (by rw [end2_set])) <| w_nil <| kk_nx ?_
    refine fin [.pays "c0" q0, .may "e0" r0, .pays "c1" q1] p4 (o4.mono (by omega)) ⟨q0, r0, .inr ⟨q1, rfl⟩⟩ ?_
    intro c hc
    simp only [List.mem_cons, List.not_mem_nil, or_false] at hc
    rcases hc with rfl | rfl | rfl
    · exact k0
    · exact k1
    · exact k2
  · refine w_nil <| kk_nx ?_
    refine fin [.pays "c0" q0, .may "e0" r0] p3 (o3.mono (by omega)) ⟨q0, r0, .inl rfl⟩ ?_
    intro c hc
    simp only [List.mem_cons, List.not_mem_nil, or_false] at hc
    rcases hc with rfl | rfl
    · exact k0
    · exact k1
theorem book_w (K : Base G) {most : Nat} {w sm : Bool} (hp : p.Ok n) (hn : n + 500 < 1099511627776) (hm0 : 0 < most) (hm : most ≤ 3)
    (h : ∀ (b : Bk) p', p'.Ok (n + 500) → b.Ok → Q (.mu (t.length + 4)) (PnT.mo p' :: (t ++ junkB b))) :
    Wp ((orcAt G (k+6)).fn "_law_book" [.mu 0, .bl w, .bl sm, .int (most : Int)] (PnT.mo p :: t)) Q := by
  refine fn_w K._law_book rfl rfl <| w_ite <| v_cmp <| w_call <| w_rfl rfl <| draw_w K hp (by omega) (by omega) rfl ?_
  intro r p1 r0 r1 o1
  refine w_rfl rfl <| w_rfl (a := decide (0 < r)) rfl ⟨fun _ => ?_, fun _ => ?_⟩
  · refine w_par <| w_esc <| w_call <| w_esc <| w_rfl rfl <| w_esc <| w_bin <| w_rfl rfl <| w_call <| w_rfl rfl <| draw_w K o1 (by omega) (by omega) rfl ?_
    intro m p2 m0 m1 o2
    obtain ⟨m, rfl⟩ : ∃ i : Nat, m = i := ⟨m.toNat, by omega⟩
    have er : (1 : Int) + (m : Int) = ((m + 1 : Nat) : Int) := by omega
    refine w_rfl (a := .int ((m + 1 : Nat) : Int)) (by rw [← er]; rfl) <| w_es1 <| w_rfl rfl <| moved_w K o2 (by omega) (by omega) ?_
    intro ns p3 o3 hns l1 l6
    exact w_rfl rfl ⟨_, rfl, w_nil <| kk_nx <| rest_w K (k := k + 1) (nt := 1) o3 (by omega) hm0 hm (.inl rfl) hns l1 l6 fun b p' o' hb => h b p' (o'.mono (by omega)) hb⟩
  · refine w_set <| w_call <| w_rfl rfl <| pick_w K (xs := [thingsD 1, thingsD 2]) o1 (by omega) (by simp) (by simp) rfl ?_
    intro d hd p2 o2
    obtain ⟨nt, hnt, rfl⟩ : ∃ nt : Nat, (nt = 1 ∨ nt = 2) ∧ d = thingsD nt := by
      simp only [List.mem_cons, List.not_mem_nil, or_false] at hd
      rcases hd with h | h
      · exact ⟨1, .inl rfl, h⟩
      · exact ⟨2, .inr rfl, h⟩
    refine w_set <| w_call <| w_esc <| w_rfl rfl <| w_esc <| w_bi <| w_es1 <| w_rfl rfl <| w_rfl (things_len hnt _) <| w_rfl rfl <| tree_w K (nt := nt) (most := 5) o2 (by omega) (by omega) (by omega) (by omega) ?_
    intro ns p3 o3 hns l1 l6
    exact w_nil <| kk_nx <| rest_w K (k := k + 1) (nt := nt) o3 (by omega) hm0 hm hnt hns l1 l6 fun b p' o' hb => h b p' (o'.mono (by omega)) hb
end
end Kin
end
section
set_option linter.all false
set_option maxRecDepth 100000
set_option maxHeartbeats 1000003
namespace Kin
open PySem Ev
variable {G : Gl}
def Clm.cut : Clm → Clm
  | .pays nm qs => .pays nm (qs.take 1)
  | .may nm rows => .may nm [(0, match rows with | r :: _ => r.2 | [] => zQ 0)]
theorem Clm.Ok.cut {c : Clm} {len : Nat} (h : c.Ok len) (hl : 1 ≤ len) : c.cut.Ok 1 := by
  cases c with
  | pays nm qs =>
    obtain ⟨h1, h2⟩ := h
    refine ⟨by rw [List.length_take]; omega, fun q hq => h2 q (List.mem_of_mem_take hq)⟩
  | may nm rows =>
    obtain ⟨h1, h2⟩ := h
    match rows, h1 with
    | r :: rs, _ =>
      refine ⟨by simp, ?_⟩
      intro x hx
      simp only [List.mem_cons, List.not_mem_nil, or_false] at hx
      subst hx
      exact ⟨by omega, (h2 r (List.mem_cons_self ..)).2⟩
section
variable {k n : Nat} {p : PnT} {t : Sto} {Q : D → Sto → Prop}
theorem with_w (K : Base G) {m : Nat} {key : Str} {v : D} {ds ds' : List D} (ht : t[m]? = some (.dct bK ds)) (hv : plainD v = true) (hput : putK bK ds (.inr key) v = (bK, ds'))
    (h : Q (.mu (t.length + 1)) (PnT.mo p :: (t ++ [.dct bK ds']))) : Wp ((orcAt G (k+1)).fn "_law_with" [.mu (m + 1), .str key, v] (PnT.mo p :: t)) Q := by
  have ht' : (PnT.mo p :: t)[m + 1]? = some (.dct bK ds) := ht
  refine fn_w K._law_with rfl rfl <| w_set <| w_mkb <| w_es1 <| w_rfl rfl <| w_rfl (a := .mu (t.length + 1)) (s := PnT.mo p :: (t ++ [MO.dct bK ds])) ?_ <| w_asg <| w_rfl rfl <| w_rfl (a := [some (.mu (m + 1)), some (.str key), some v, some (.mu (t.length + 1))]) (s := PnT.mo p :: (t ++ [.dct bK ds'])) ?_ <| w_rtn <| w_rfl rfl <| ret_mu (by simp) h
  · refine (mk_ok (o := .dct bK ds) ?_).trans rfl
    show mkO .dict [thD (.mu (m + 1)) (PnT.mo p :: t)] = _
    rw [thD_dct ht']
    rfl
  · have hs := set_dct (m := t.length + 1) (b := .str key) (v := v) (v' := v) (k := .inr key) (ks := bK) (xs := ds) (s := PnT.mo p :: (t ++ [MO.dct bK ds])) (frz_plain hv _) (by simp) rfl (by decide)
    show bnd (setD (.mu (t.length + 1)) (.str key) v) _ _ = _
    rw [bnd_ok hs, hput]
    show R.ok _ _ = R.ok _ _
    simp
    rfl
theorem get_tup {xs : List D} {k : Nat} {x : D} {s : Sto} (h : xs[k]? = some x) : getD (.tup xs) (.int (k : Int)) s = .ok x s := by
  show opD (atI xs (k : Int)) s = _
  rw [at_ok h]
  rfl
theorem cut1 {α : Type} {f : α → D} (l : List α) : cutD (l.map f) none (some 1) = (l.take 1).map f := by
  cases l with
  | nil => rfl
  | cons a l => simp [cutD, sIx]
theorem alone_w (K : Base G) {b : Bk} (hb : b.Ok) (hp : p.Ok n) (hn : n + 1 < 1099511627776) (h : ∀ (b : Bk) (p' : PnT) (J : Sto) (j : Nat), p'.Ok (n + 1) → b.Ok → noEnv J = true → J[j]? = some (.dct bK b.ds) → Q (.mu (t.length + 1 + j)) (PnT.mo p' :: (t ++ J))) :
    Wp ((orcAt G (k+2)).fn "_law_root_alone" [.mu 0, .mu (t.length + 4)] (PnT.mo p :: (t ++ junkB b))) Q := by
  have hj : (t ++ junkB b)[t.length + 3]? = some (.dct bK b.ds) := by simp [junkB]
  refine fn_w K._law_root_alone rfl rfl <| w_ite <| v_cmp <| w_call <| w_rfl rfl <| draw_w K (t := t ++ junkB b) hp (by omega) (by omega) rfl ?_
  intro r p1 r0 r1 o1
  refine w_rfl rfl <| w_rfl (a := decide (0 < r)) rfl ⟨fun _ => ?_, fun _ => ?_⟩
  · refine w_rtn <| w_rfl rfl ?_
    show Wp (leave (PnT.mo p :: (t ++ junkB b)).length (.mu (t.length + 4)) (PnT.mo p1 :: (t ++ junkB b))) Q
    refine w_rfl (a := .mu (t.length + 4)) (s := PnT.mo p1 :: (t ++ junkB b)) ?_ (h b p1 (junkB b) 3 o1 hb (by with_unfolding_all rfl) (by with_unfolding_all rfl))
    show (if t.length + 4 < (PnT.mo p :: (t ++ junkB b)).length then R.ok _ ((PnT.mo p1 :: (t ++ junkB b)).take (PnT.mo p :: (t ++ junkB b)).length) else _) = _
    rw [if_pos (by simp [junkB])]
    have : (PnT.mo p1 :: (t ++ junkB b)).take (PnT.mo p :: (t ++ junkB b)).length = PnT.mo p1 :: (t ++ junkB b) := take_self rfl
    rw [this]
  · have hg : ∀ (X : Cx') (e : En) (key : Str) (x : D), e[1]? = some (some (.mu (t.length + 4))) → getK bK b.ds (.inr key) = some x → evE X (.ix (.v 1) (.c (.str key))) e (PnT.mo p1 :: (t ++ junkB b)) = .ok x (PnT.mo p1 :: (t ++ junkB b)) := by
      intro X e key x he hx
      refine r_ix (x := .mu (t.length + 4)) (y := .str key) (s1 := PnT.mo p1 :: (t ++ junkB b)) (s2 := PnT.mo p1 :: (t ++ junkB b)) ?_ rfl ?_
      · show (match e[1]? with | some (some d) => Ev.ret d | _ => Ev.no) _ = _
        rw [he]
        rfl
      · show opD (getO (thD (.mu (t.length + 4)) _) _) _ = _
        rw [thD_dct (k := t.length + 4) (ks := bK) (xs := b.ds) (s := PnT.mo p1 :: (t ++ junkB b)) hj]
        show opD (getK bK b.ds (.inr key)) _ = _
        rw [hx]
        rfl
    let b2 : Bk := ⟨b.nt, b.ns.take 1, b.lims, b.cls.map Clm.cut, b.asks⟩
    have hb2 : b2.Ok := by
      refine ⟨hb.nt, hb.ns.take 1, ?_, ?_, hb.ll, hb.lim, ?_, ?_, hb.ak⟩
      · show 1 ≤ (b.ns.take 1).length
        have := hb.l1
        rw [List.length_take]
        omega
      · show (b.ns.take 1).length ≤ 6
        rw [List.length_take]
        omega
      · obtain ⟨q0, r0, hc | ⟨q1, hc⟩⟩ := hb.cl
        · exact ⟨_, _, .inl (by show b.cls.map Clm.cut = _; rw [hc]; rfl)⟩
        · exact ⟨_, _, .inr ⟨_, by show b.cls.map Clm.cut = _; rw [hc]; rfl⟩⟩
      · intro c hc
        obtain ⟨c0, h0, rfl⟩ := List.mem_map.mp hc
        have e1 : (b.ns.take 1).length = 1 := by
          have := hb.l1
          rw [List.length_take]
          omega
        show c0.cut.Ok (b.ns.take 1).length
        rw [e1]
        exact (hb.ck c0 h0).cut hb.l1
    have hcl3 : b.cls.length ≤ 3 := by
      obtain ⟨q0, r0, hc | ⟨q1, hc⟩⟩ := hb.cl <;> rw [hc] <;> simp
    let ds1 : List D := [thingsD b.nt, .lst ((b.ns.take 1).map Nd.d), .lst (b.lims.map limD), .lst (b.cls.map Clm.d), .lst b.asks]
    refine w_nil <| kk_nx <| w_set <| w_rfl (a := .lst ((b.cls.map Clm.cut).map Clm.d)) (s := PnT.mo p1 :: (t ++ junkB b)) ?_ <| w_rtn <| w_call <| w_esc <| w_call <| w_esc <| w_rfl rfl <| w_esc <| w_rfl rfl <| w_es1 <| w_rfl (a := .lst ((b.ns.take 1).map Nd.d)) (s := PnT.mo p1 :: (t ++ junkB b)) ?_ <| with_w K (t := t ++ junkB b) (m := t.length + 3) (key := "nodes") (v := .lst ((b.ns.take 1).map Nd.d)) (ds' := ds1) hj rfl (by with_unfolding_all rfl) <| w_esc <| w_rfl rfl <| w_es1 <| w_rfl rfl <| with_w K (t := (t ++ junkB b) ++ [MO.dct bK ds1]) (m := (t ++ junkB b).length) (key := "claims") (v := .lst ((b.cls.map Clm.cut).map Clm.d)) (ds := ds1) (ds' := b2.ds) (by simp) rfl (by with_unfolding_all rfl) ?_
    · refine r_comp (xs := b.cls.map Clm.d) (h := none) (s1 := PnT.mo p1 :: (t ++ junkB b)) (ys := (b.cls.map Clm.cut).map Clm.d) (s2 := PnT.mo p1 :: (t ++ junkB b)) ?_ ?_ (by simp; omega) rfl rfl
      · show bnd (bnd (evE _ (.ix (.v 1) (.c (.str "claims"))) _) _) _ _ = _
        rw [bnd_bnd, bnd_ok (hg _ _ "claims" (.lst (b.cls.map Clm.d)) rfl (by with_unfolding_all rfl))]
        rfl
      · have e : (b.cls.map Clm.cut).map Clm.d = b.cls.filterMap fun c => some c.cut.d := by
          rw [List.filterMap_eq_map', List.map_map]
          rfl
        rw [e]
        refine loopC_pm Clm.d _ fun c hc => ?_
        have hok := hb.ck c hc
        cases c with
        | pays nm qs =>
          refine c_elt (d := Clm.d (Clm.cut (.pays nm qs))) rfl (r_tup (xs := [.str nm, .str "pays", .tup ((qs.take 1).map qD)]) (s1 := PnT.mo p1 :: (t ++ junkB b)) (ys := [.str nm, .str "pays", .tup ((qs.take 1).map qD)]) (r_esc rfl (r_esc rfl (r_es1 (r_ife (q := true) (tt_cmp rfl rfl (by with_unfolding_all rfl)) ?_)))) rfl) rfl
          show R.ok (D.tup (cutD (qs.map qD) none (some 1))) _ = _
          rw [cut1]
        | may nm rows =>
          match rows, hok.1 with
          | r :: rs, _ => exact c_elt (d := Clm.d (Clm.cut (.may nm (r :: rs)))) rfl (r_tup (xs := [.str nm, .str "may", .tup [.tup [.int 0, qD r.2]]]) (s1 := PnT.mo p1 :: (t ++ junkB b)) (ys := [.str nm, .str "may", .tup [.tup [.int 0, qD r.2]]]) (r_esc rfl (r_esc rfl (r_es1 (r_ife (q := false) (tt_cmp rfl rfl (by with_unfolding_all rfl)) (r_tup (s1 := PnT.mo p1 :: (t ++ junkB b)) (r_es1 (r_tup (s1 := PnT.mo p1 :: (t ++ junkB b)) (r_esc rfl (r_es1 (r_ix (s1 := PnT.mo p1 :: (t ++ junkB b)) (x := rowD r) (r_ix (s1 := PnT.mo p1 :: (t ++ junkB b)) rfl rfl (get_tup (xs := (r :: rs).map rowD) (k := 0) (x := rowD r) rfl)) rfl rfl))) rfl)) rfl))))) rfl) rfl
    · show bnd (evE _ (.ix (.v 1) (.c (.str "nodes"))) _) _ _ = _
      rw [bnd_ok (hg _ _ "nodes" (.lst (b.ns.map Nd.d)) rfl (by with_unfolding_all rfl))]
      show R.ok (D.lst (cutD (b.ns.map Nd.d) none (some 1))) _ = _
      rw [cut1]
    · have h2 := h b2 p1 (junkB b ++ [.dct bK ds1, .dct bK b2.ds]) 6 o1 hb2 (by with_unfolding_all rfl) (by with_unfolding_all rfl)
      have e1 : t ++ (junkB b ++ [MO.dct bK ds1, .dct bK b2.ds]) = (t ++ junkB b ++ [MO.dct bK ds1]) ++ [MO.dct bK b2.ds] := by simp
      have e2 : t.length + 1 + 6 = (t ++ junkB b ++ [MO.dct bK ds1]).length + 1 := by simp [junkB]
      rw [e1, e2] at h2
      exact ret_mu (by simp) h2
theorem market_w (K : Base G) (hp : p.Ok n) (hn : n + 600 < 1099511627776) (h : ∀ (b : Bk) (p' : PnT) (J : Sto) (j : Nat), p'.Ok (n + 600) → b.Ok → noEnv J = true → J[j]? = some (.dct bK b.ds) → Q (.mu (t.length + 1 + j)) (PnT.mo p' :: (t ++ J))) :
    Wp ((orcAt G (k+7)).fn "_law_market" [.mu 0, .bl true, .bl true] (PnT.mo p :: t)) Q := by
  refine fn_w K._law_market rfl rfl <| w_rtn <| w_call <| w_esc <| w_rfl rfl <| w_es1 <| w_call <| w_rfl rfl <| book_w K (most := 3) hp (by omega) (by omega) (by omega) ?_
  intro b p1 o1 hb
  refine alone_w K (k := k + 4) hb o1 (by omega) ?_
  intro b2 p2 J j o2 hb2 hJ hj
  exact ret_mu (by simp) (h b2 p2 J j (o2.mono (by omega)) hb2 hJ hj)
end
/-- the model of a book -/
def mK : List Str := ["things", "nodes", "limits", "claims", "asks", "measures"]
def Bk.model (b : Bk) : D := .obj "Model" mK [thingsD b.nt, .tup (b.ns.map Nd.d), .tup (b.lims.map limD), .tup (b.cls.map Clm.d), .tup b.asks, .tup []]
end Kin
end
section
set_option linter.all false
set_option maxRecDepth 100000
set_option maxHeartbeats 1000003
namespace Kin
open PySem Ev
variable {G : Gl}
/-! ### the model -/
theorem cls_ok' {k : Nat} {f : Str} {C : Cl} {xs ys zs zs' : List D} {s s1 s2 : Sto} (h0 : G.fn f = none) (h1 : G.cls f = some C) (h2 : fillA C.np C.dfl xs = some ys) (h3 : evEs (cxK G k) C.es (none :: ys.map some) s = .ok zs s1) (h4 : frzDs zs s1 = .ok zs' s2) (h5 : C.fs.length = zs'.length) (h6 : s2.length = s.length) :
    (orcAt G (k+1)).fn f xs s = .ok (.obj f C.fs zs') s2 := by
  simp only [orcAt, h0, h1, h2]
  have h3' : evEs ⟨G.con, G.isa, G.exs, orcAt G k, G.wf, none⟩ C.es (none :: ys.map some) s = .ok zs s1 := h3
  rw [h3']
  simp only [h4, h5, decide_true, if_true]
  rw [← h6, List.take_length]
theorem copied_ok (K : Base G) {k : Nat} {xs : List D} {s : Sto} : (orcAt G (k+1)).fn "copied" [.tup xs] s = .ok (.tup xs) s :=
  call_rt K.copied rfl rfl rfl rfl (r_rtn (r_ife (q := false) rfl rfl))
theorem things_tup {nt : Nat} (h : nt = 1 ∨ nt = 2) : ∃ xs, thingsD nt = .tup xs := by
  rcases h with rfl | rfl <;> exact ⟨_, rfl⟩
theorem built_ok (K : Base G) {k j : Nat} {b : Bk} {s : Sto} (hb : b.Ok) (h : s[j]? = some (.dct bK b.ds)) : (orcAt G (k+3)).fn "_law_built" [.mu j] s = .ok b.model s := by
  obtain ⟨ts, hts⟩ := things_tup hb.nt
  have hg : ∀ (X : Cx') (e : En) (key : Str) (x : D), e[0]? = some (some (.mu j)) → getK bK b.ds (.inr key) = some x → evE X (.ix (.v 0) (.c (.str key))) e s = .ok x s := by
    intro X e key x he hx
    refine r_ix (x := .mu j) (y := .str key) (s1 := s) (s2 := s) ?_ rfl ?_
    · show (match e[0]? with | some (some d) => Ev.ret d | _ => Ev.no) _ = _
      rw [he]
      rfl
    · show opD (getO (thD (.mu j) _) _) _ = _
      rw [thD_dct h]
      show opD (getK bK b.ds (.inr key)) _ = _
      rw [hx]
      rfl
  have e1 := hg (cxK G (k+2)) [some (.mu j)] "things" (.tup ts) rfl (by rw [← hts]; with_unfolding_all rfl)
  have e2 := hg (cxK G (k+2)) [some (.mu j)] "nodes" (.lst (b.ns.map Nd.d)) rfl (by with_unfolding_all rfl)
  have e3 := hg (cxK G (k+2)) [some (.mu j)] "limits" (.lst (b.lims.map limD)) rfl (by with_unfolding_all rfl)
  have e4 := hg (cxK G (k+2)) [some (.mu j)] "claims" (.lst (b.cls.map Clm.d)) rfl (by with_unfolding_all rfl)
  have e5 := hg (cxK G (k+2)) [some (.mu j)] "asks" (.lst b.asks) rfl (by with_unfolding_all rfl)
  have em := cls_ok' (k := k + 1) (C := C_Model) (s := s) (s1 := s) (s2 := s) (zs := [.tup ts, .tup (b.ns.map Nd.d), .tup (b.lims.map limD), .tup (b.cls.map Clm.d), .tup b.asks, .tup []]) (xs := [.tup ts, .tup (b.ns.map Nd.d), .tup (b.lims.map limD), .tup (b.cls.map Clm.d), .tup b.asks]) K.n_Model K.c_Model rfl (r_esc (r_call rfl (copied_ok K)) (r_esc (r_call rfl (copied_ok K)) (r_esc (r_call rfl (copied_ok K)) (r_esc (r_call rfl (copied_ok K)) (r_esc (r_call rfl (copied_ok K)) (r_es1 (r_call rfl (copied_ok K)))))))) rfl rfl rfl
  unfold Bk.model
  rw [hts]
  exact call_rt K._law_built rfl rfl rfl rfl (r_rtn (r_mk (s1 := s) (xs := [.tup ts, .tup (b.ns.map Nd.d), .tup (b.lims.map limD), .tup (b.cls.map Clm.d), .tup b.asks]) (r_esc (r_bi (r_es1 e1) rfl) (r_esc (r_bi (r_es1 e2) rfl) (r_esc (r_bi (r_es1 e3) rfl) (r_esc (r_bi (r_es1 e4) rfl) (r_es1 (r_bi (r_es1 e5) rfl)))))) em))
/-! ### parents -/
structure PsOk (ps : List (Option Nat)) : Prop where
  l1 : 1 ≤ ps.length
  l6 : ps.length ≤ 6
  p0 : ∀ o, ps[0]? = some o → o = none
  p1 : ∀ k o, 0 < k → ps[k]? = some o → ∃ j, j < k ∧ o = some j
theorem Bk.Ok.ps {b : Bk} (h : b.Ok) : PsOk (PS b.ns) := by
  refine ⟨by have := h.l1; simpa [PS] using this, by have := h.l6; simpa [PS] using this, fun o ho => ?_, fun k o hk ho => ?_⟩
  · unfold PS at ho
    rw [List.getElem?_map] at ho
    obtain ⟨x, hx, rfl⟩ := Option.map_eq_some_iff.mp ho
    exact (h.ns 0 x hx).p0 rfl
  · unfold PS at ho
    rw [List.getElem?_map] at ho
    obtain ⟨x, hx, rfl⟩ := Option.map_eq_some_iff.mp ho
    exact (h.ns k x hx).p1 hk
def parOf (ps : List (Option Nat)) (k : Nat) : Option Nat := (ps[k]?).getD none
theorem PsOk.par {ps : List (Option Nat)} (h : PsOk ps) {k j : Nat} (e : parOf ps k = some j) : j < k := by
  unfold parOf at e
  cases ho : ps[k]? with
  | none => rw [ho] at e; cases e
  | some o =>
    rw [ho] at e
    have e : o = some j := e
    by_cases hk : k = 0
    · subst hk
      rw [h.p0 o ho] at e
      cases e
    · obtain ⟨i, hi, rfl⟩ := h.p1 k o (by omega) ho
      cases e
      exact hi
def wayF (ps : List (Option Nat)) : Nat → Nat → List Nat
  | 0, k => [k]
  | n + 1, k => match parOf ps k with
    | none => [k]
    | some j => wayF ps n j ++ [k]
def wayL (ps : List (Option Nat)) (k : Nat) : List Nat := wayF ps k k
theorem wayF_st {ps : List (Option Nat)} (h : PsOk ps) : ∀ (m m' k : Nat), k ≤ m → k ≤ m' → wayF ps m k = wayF ps m' k
  | 0, 0, k, _, _ => rfl
  | 0, m' + 1, k, h0, _ => by
    have : k = 0 := by omega
    subst this
    show [0] = match parOf ps 0 with
      | none => [0]
      | some j => wayF ps m' j ++ [0]
    cases e : parOf ps 0 with
    | none => rfl
    | some j => have := h.par e; omega
  | m + 1, 0, k, _, h0 => by
    have : k = 0 := by omega
    subst this
    show (match parOf ps 0 with
      | none => [0]
      | some j => wayF ps m j ++ [0]) = [0]
    cases e : parOf ps 0 with
    | none => rfl
    | some j => have := h.par e; omega
  | m + 1, m' + 1, k, h1, h2 => by
    show (match parOf ps k with
      | none => [k]
      | some j => wayF ps m j ++ [k]) = match parOf ps k with
      | none => [k]
      | some j => wayF ps m' j ++ [k]
    cases e : parOf ps k with
    | none => rfl
    | some j =>
      have := h.par e
      show wayF ps m j ++ [k] = wayF ps m' j ++ [k]
      rw [wayF_st h m m' j (by omega) (by omega)]
theorem way_none {ps : List (Option Nat)} {k : Nat} (e : parOf ps k = none) : wayL ps k = [k] := by
  unfold wayL
  cases k with
  | zero => rfl
  | succ k =>
    show (match parOf ps (k+1) with
      | none => [k+1]
      | some j => wayF ps k j ++ [k+1]) = _
    rw [e]
theorem way_some {ps : List (Option Nat)} (h : PsOk ps) {k j : Nat} (e : parOf ps k = some j) : wayL ps k = wayL ps j ++ [k] := by
  have hj := h.par e
  unfold wayL
  cases k with
  | zero => omega
  | succ k =>
    show (match parOf ps (k+1) with
      | none => [k+1]
      | some j => wayF ps k j ++ [k+1]) = _
    rw [e]
    show wayF ps k j ++ [k+1] = _
    rw [wayF_st h k j j (by omega) (by omega)]
/-! ### the program's trees -/
theorem ps_get {ns : List Nd} {k : Nat} (hk : k < ns.length) : ∃ x, ns[k]? = some x ∧ parOf (PS ns) k = x.par := by
  refine ⟨ns[k], List.getElem?_eq_getElem hk, ?_⟩
  unfold parOf PS
  rw [List.getElem?_map, List.getElem?_eq_getElem hk]
  rfl
section
variable {k : Nat} {b : Bk} {s : Sto}
theorem nodes_fld (X : Cx') (e : En) (h : e[0]? = some (some b.model)) : evE X (.fld (.v 0) "nodes") e s = .ok (.tup (b.ns.map Nd.d)) s := by
  have h1 : evE X (.v 0) e s = .ok b.model s := by
    show (match e[0]? with | some (some d) => Ev.ret d | _ => Ev.no) s = _
    rw [h]
    rfl
  show bnd (evE X (.v 0) e) _ s = _
  rw [bnd_ok h1]
  with_unfolding_all rfl
theorem nodes_len (X : Cx') (e : En) (h : e[0]? = some (some b.model)) : evE X (.bi .len (.cons (.fld (.v 0) "nodes") .nil)) e s = .ok (.int (b.ns.length : Int)) s := by
  refine r_bi (r_es1 (nodes_fld X e h)) ?_
  show R.ok (D.int (((b.ns.map Nd.d).length : Nat) : Int)) s = _
  rw [List.length_map]
theorem parent_ok (T : Tre G) {i : Nat} (hi : i < b.ns.length) : (orcAt G (k+1)).fn "parent_of" [b.model, .int (i : Int)] s = .ok (parD (parOf (PS b.ns) i)) s := by
  obtain ⟨x, hx, e⟩ := ps_get hi
  rw [e]
  refine call_rt T.parent_of rfl rfl rfl (parD_plain _) (r_rtn (r_ix (x := x.d) (s1 := s) (s2 := s) (r_ix (s1 := s) (s2 := s) (nodes_fld _ _ rfl) rfl (get_tup (by rw [List.getElem?_map, hx]; rfl))) rfl rfl))
theorem rng_nodes (X : Cx') (e : En) (h : e[0]? = some (some b.model)) (hl : b.ns.length ≤ 1000) : evItQ X (.rng (.cons (.bi .len (.cons (.fld (.v 0) "nodes") .nil)) .nil)) e s = .ok (nD (List.range b.ns.length), none) s := by
  show bnd (bnd (evEs X (.cons (.bi .len (.cons (.fld (.v 0) "nodes") .nil)) .nil) e) fun xs => opt (rngD xs)) _ s = _
  rw [bnd_bnd, bnd_ok (r_es1 (nodes_len X e h)), rng_len (by omega)]
  rfl
def innerL (ps : List (Option Nat)) : List Nat := (List.range ps.length).filter fun k => decide (some k ∈ ps)
def leavesP (ps : List (Option Nat)) : List Nat := (List.range ps.length).filter fun k => !decide (k ∈ innerL ps)
def childL (ps : List (Option Nat)) (i : Nat) : List Nat := (List.range ps.length).filter fun k => decide (parOf ps k = some i)
def beyondL (ps : List (Option Nat)) (i : Nat) : List Nat := (List.range ps.length).filter fun k => decide (i ∈ wayL ps k)
theorem ps_len (ns : List Nd) : (PS ns).length = ns.length := by simp [PS]
theorem flt_len (n : Nat) (q : Nat → Bool) (h : n ≤ 1000) : (nD ((List.range n).filter q)).length ≤ 1000000 := by
  have := List.length_filter_le q (List.range n)
  unfold nD
  rw [List.length_map]
  simp at this
  omega
theorem ps_map (ps : List (Option Nat)) : (List.range ps.length).map (fun k => parOf ps k) = ps := by
  apply List.ext_getElem?
  intro i
  rw [List.getElem?_map]
  by_cases hi : i < ps.length
  · rw [List.getElem?_range hi]
    show some ((ps[i]?).getD none) = ps[i]?
    rw [List.getElem?_eq_getElem hi]
    rfl
  · rw [List.getElem?_eq_none (by simpa using hi), List.getElem?_eq_none (by omega)]
    rfl
theorem inner_ok (T : Tre G) (hl : b.ns.length ≤ 1000) : (orcAt G (k+2)).fn "inner_by" [b.model] s = .ok (.tup (nD (innerL (PS b.ns)))) s := by
  have e1 : evE (cxK G (k+1)) (.comp false [("k", 2)] (.name 2) (.rng (.cons (.bi .len (.cons (.fld (.v 0) "nodes") .nil)) .nil)) .nil (.call "parent_of" (.cons (.v 0) (.cons (.v 2) .nil)))) [some b.model, none, none] s = .ok (.lst ((PS b.ns).map parD)) s := by
    refine r_comp (ys := (PS b.ns).map parD) (rng_nodes _ _ rfl hl) ?_ (by simp [PS]; omega) rfl rfl
    have : (PS b.ns).map parD = (List.range b.ns.length).filterMap fun i => some (parD (parOf (PS b.ns) i)) := by
      rw [List.filterMap_eq_map']
      have := ps_map (PS b.ns)
      rw [ps_len] at this
      conv => lhs; rw [← this, List.map_map]
      rfl
    rw [this]
    refine loopC_pm (fun (i : Nat) => D.int (i : Int)) _ fun i hi => ?_
    exact c_elt rfl (r_call rfl (parent_ok T (by simpa using hi))) (frz_plain (parD_plain _) _)
  refine call_rt T.inner_by rfl rfl rfl rfl (r_set e1 (r_rtn (r_bi (r_es1 (r_comp (ys := nD (innerL (PS b.ns))) (rng_nodes _ _ rfl hl) ?_ (by unfold innerL; rw [ps_len]; exact flt_len _ _ hl) rfl rfl)) rfl)))
  unfold innerL
  rw [← filter_map_if, ps_len]
  refine loopC_pm (fun (i : Nat) => D.int (i : Int)) _ fun i _ => ?_
  exact c_if (q := decide (some i ∈ PS b.ns)) rfl (tt_cmp rfl rfl (in_pl s i _)) (fun _ => rfl) fun _ => rfl
theorem leavesP_ok (T : Tre G) (hl : b.ns.length ≤ 1000) : (orcAt G (k+3)).fn "leaves_by" [b.model] s = .ok (.tup (nD (leavesP (PS b.ns)))) s := by
  refine call_rt T.leaves_by rfl rfl rfl rfl (r_set (r_call rfl (inner_ok T hl)) (r_rtn (r_bi (r_es1 (r_comp (ys := nD (leavesP (PS b.ns))) (rng_nodes _ _ rfl hl) ?_ (by unfold leavesP; rw [ps_len]; exact flt_len _ _ hl) rfl rfl)) rfl)))
  unfold leavesP
  rw [← filter_map_if, ps_len]
  refine loopC_pm (fun (i : Nat) => D.int (i : Int)) _ fun i _ => ?_
  exact c_if (q := !decide (i ∈ innerL (PS b.ns))) rfl (tt_cmp rfl rfl (notin_nt s i _)) (fun _ => rfl) fun _ => rfl
theorem children_ok (C : Chi G) (T : Tre G) {i : Nat} (hl : b.ns.length ≤ 1000) : (orcAt G (k+2)).fn "children_by" [b.model, .int (i : Int)] s = .ok (.tup (nD (childL (PS b.ns) i))) s := by
  refine call_rt C.children_by rfl rfl rfl rfl (r_rtn (r_bi (r_es1 (r_comp (ys := nD (childL (PS b.ns) i)) (rng_nodes _ _ rfl hl) ?_ (by unfold childL; rw [ps_len]; exact flt_len _ _ hl) rfl rfl)) rfl))
  unfold childL
  rw [← filter_map_if, ps_len]
  refine loopC_pm (fun (i : Nat) => D.int (i : Int)) _ fun j hj => ?_
  exact c_if (q := decide (parOf (PS b.ns) j = some i)) rfl (tt_cmp (r_call rfl (parent_ok T (by simpa using hj))) rfl (eq_p s _ i)) (fun _ => rfl) fun _ => rfl
end
end Kin
end
section
set_option linter.all false
set_option maxRecDepth 100000
set_option maxHeartbeats 1000003
namespace Kin
open PySem Ev
variable {G : Gl}
theorem isnot_p (o : Option Nat) (s : Sto) : cmpD .IsNot (parD o) .non s = .ok o.isSome s := by
  cases o <;> rfl
theorem last_get {s : Sto} {o : MO} : (s ++ [o])[s.length]? = some o := by simp
theorem last_set {s : Sto} {o o' : MO} : (s ++ [o]).set s.length o' = s ++ [o'] := by simp
section
variable {k : Nat} {b : Bk} {s : Sto}
def pathT : T := .cmp .IsNot (.call "parent_of" (.cons (.v 0) (.cons (.ix (.v 2) (.c (.int 0))) .nil))) (.c .non)
def pathB : Ss := .cons (.exp (.met (.v 2) .insert (.cons (.c (.int 0)) (.cons (.call "parent_of" (.cons (.v 0) (.cons (.ix (.v 2) (.c (.int 0))) .nil))) .nil)))) .nil
theorem path_loop (T : Tre G) (hb : b.Ok) (i : Nat) : ∀ (fuel h : Nat) (tl : List Nat), h < fuel → h < b.ns.length → tl.length + h ≤ 1000 →
    loopW (evT (cxK G (k+1)) pathT) (evSs (cxK G (k+1)) pathB) fuel [some b.model, some (.int (i : Int)), some (.mu s.length)] (s ++ [.lst (nD (h :: tl))]) = .ok (.nx [some b.model, some (.int (i : Int)), some (.mu s.length)]) (s ++ [.lst (nD (wayL (PS b.ns) h ++ tl))])
  | 0, h, tl, h0, _, _ => by omega
  | fuel + 1, h, tl, h0, h1, h2 => by
    have e1 : evE (cxK G (k+1)) (.call "parent_of" (.cons (.v 0) (.cons (.ix (.v 2) (.c (.int 0))) .nil))) [some b.model, some (.int (i : Int)), some (.mu s.length)] (s ++ [.lst (nD (h :: tl))]) = .ok (parD (parOf (PS b.ns) h)) (s ++ [.lst (nD (h :: tl))]) :=
      r_call (s1 := s ++ [MO.lst (nD (h :: tl))]) (xs := [b.model, .int (h : Int)]) (r_esc rfl (r_es1 (r_ix (s1 := s ++ [MO.lst (nD (h :: tl))]) (s2 := s ++ [MO.lst (nD (h :: tl))]) (x := .mu s.length) (y := .int ((0 : Nat) : Int)) rfl rfl (get_row (thD_lst last_get) rfl)))) (parent_ok T h1)
    have et : evT (cxK G (k+1)) pathT [some b.model, some (.int (i : Int)), some (.mu s.length)] (s ++ [.lst (nD (h :: tl))]) = .ok (parOf (PS b.ns) h).isSome (s ++ [.lst (nD (h :: tl))]) := tt_cmp e1 rfl (isnot_p _ _)
    cases ep : parOf (PS b.ns) h with
    | none =>
      rw [ep] at et
      rw [way_none ep]
      exact loopW_end et
    | some j =>
      rw [ep] at et e1
      have hj := hb.ps.par ep
      rw [way_some hb.ps ep, List.append_assoc]
      have ei : evSs (cxK G (k+1)) pathB [some b.model, some (.int (i : Int)), some (.mu s.length)] (s ++ [.lst (nD (h :: tl))]) = .ok (.nx [some b.model, some (.int (i : Int)), some (.mu s.length)]) (s ++ [.lst (nD (j :: h :: tl))]) := by
        refine r_exp (d := .non) (s1 := s ++ [MO.lst (nD (j :: h :: tl))]) (r_met (x := .mu s.length) (s1 := s ++ [MO.lst (nD (h :: tl))]) rfl (by rw [thD_lst last_get]; rfl) (r_esc rfl (r_es1 e1)) ((ins_ok last_get rfl (by simp [nD]; omega)).trans ?_)) rfl
        rw [last_set]
        rfl
      exact loopW_go et ei (path_loop T hb i fuel j (h :: tl) (by omega) (by omega) (by simp; omega))
theorem path_ok (K : Base G) (T : Tre G) (hb : b.Ok) {i : Nat} (hi : i < b.ns.length) : (orcAt G (k+2)).fn "path_by" [b.model, .int (i : Int)] s = .ok (.tup (nD (wayL (PS b.ns) i))) s := by
  have h6 := hb.l6
  have hl := path_loop (k := k) (s := s) T hb i 1000 i [] (by omega) hi (by simp; omega)
  rw [List.append_nil] at hl
  refine call_cut (j := [MO.lst (nD (wayL (PS b.ns) i))]) T.path_by rfl rfl rfl (r_set (d := .mu s.length) (s1 := s ++ [MO.lst (nD [i])]) rfl (r_whl (e' := [some b.model, some (.int (i : Int)), some (.mu s.length)]) (s1 := s ++ [MO.lst (nD (wayL (PS b.ns) i))]) ?_ (r_rtn (r_bi (r_es1 rfl) ?_))))
  · show loopW _ _ G.wf _ _ = _
    rw [K.wf]
    exact hl
  · show opD (biO .tuple [thD (.mu s.length) _]) _ = _
    rw [thD_lst last_get]
    rfl
/-- the law's own way -/
def wayB : Ss := .cons (.ite (.cmp .IsNot (.ix (.ix (.v 0) (.ix (.v 2) (.c (.int 0)))) (.c (.int 1))) (.c .non)) (.cons (.asg (.name 2) (.bin .Add (.lst false (.cons (.ix (.ix (.v 0) (.ix (.v 2) (.c (.int 0)))) (.c (.int 1))) .nil)) (.v 2))) .nil) .nil) .nil
theorem way_loop (hb : b.Ok) (i : Nat) : ∀ (xs : List D) (h : Nat) (tl : List Nat) (o : Option D), h ≤ xs.length → h < b.ns.length → tl.length + h ≤ 1000 →
    ∃ o', loopF (forT (cxK G k) (.name 3) wayB) xs [some (.lst (b.ns.map Nd.d)), some (.int (i : Int)), some (.lst (nD (h :: tl))), o] s = .ok (.nx [some (.lst (b.ns.map Nd.d)), some (.int (i : Int)), some (.lst (nD (wayL (PS b.ns) h ++ tl))), o']) s
  | [], h, tl, o, h0, h1, _ => by
    have : h = 0 := by simpa using h0
    subst this
    exact ⟨o, rfl⟩
  | x :: xs, h, tl, o, h0, h1, h2 => by
    obtain ⟨nd, hn, en⟩ := ps_get h1
    have e1 : evE (cxK G k) (.ix (.ix (.v 0) (.ix (.v 2) (.c (.int 0)))) (.c (.int 1))) [some (.lst (b.ns.map Nd.d)), some (.int (i : Int)), some (.lst (nD (h :: tl))), some x] s = .ok (parD (parOf (PS b.ns) h)) s := by
      rw [en]
      exact r_ix (x := nd.d) (s1 := s) (s2 := s) (r_ix (s1 := s) (s2 := s) (y := .int (h : Int)) rfl (r_ix (s1 := s) (s2 := s) (x := .lst (nD (h :: tl))) (y := .int ((0 : Nat) : Int)) rfl rfl (get_row rfl rfl)) (get_row rfl (by rw [List.getElem?_map, hn]; rfl))) rfl rfl
    cases ep : parOf (PS b.ns) h with
    | none =>
      rw [ep] at e1
      have h00 : h = 0 := by
        refine Decidable.byContradiction fun z => ?_
        obtain ⟨j, _, hj⟩ := hb.ps.p1 h nd.par (by omega) (by unfold PS; rw [List.getElem?_map, hn]; rfl)
        rw [← en, ep] at hj
        cases hj
      subst h00
      obtain ⟨o', hl⟩ := way_loop hb i xs 0 tl (some x) (by omega) h1 h2
      exact ⟨o', loopF_nx (e' := [some (.lst (b.ns.map Nd.d)), some (.int (i : Int)), some (.lst (nD (0 :: tl))), some x]) (r_by (tt_cmp e1 rfl (isnot_p none s)) rfl) hl⟩
    | some j =>
      rw [ep] at e1
      have hj := hb.ps.par ep
      rw [way_some hb.ps ep, List.append_assoc]
      obtain ⟨o', hl⟩ := way_loop hb i xs j (h :: tl) (some x) (by rw [List.length_cons] at h0; omega) (by omega) (by simp; omega)
      refine ⟨o', loopF_nx (e' := [some (.lst (b.ns.map Nd.d)), some (.int (i : Int)), some (.lst (nD (j :: h :: tl))), some x]) ?_ hl⟩
      refine r_cons (r_ite (q := true) (tt_cmp e1 rfl (isnot_p (some j) s)) (r_set (r_bin (x := .lst [.int (j : Int)]) (y := .lst (nD (h :: tl))) (s1 := s) (s2 := s) (r_lst (r_es1 e1) rfl rfl) rfl (RD := .ok (.lst (nD (j :: h :: tl))) s) ?_) rfl)) rfl
      show opD (if decide (1 + (nD (h :: tl)).length ≤ 1000000) then some (D.lst ([.int (j : Int)] ++ nD (h :: tl))) else none) s = _
      rw [decide_eq_true (by simp [nD]; omega)]
      rfl
theorem way_ok (C : Chi G) (hb : b.Ok) {i : Nat} (hi : i < b.ns.length) : (orcAt G (k+1)).fn "_law_way" [.lst (b.ns.map Nd.d), .int (i : Int)] s = .ok (.lst (nD (wayL (PS b.ns) i))) s := by
  have h6 := hb.l6
  obtain ⟨o', hl⟩ := way_loop (G := G) (k := k) (s := s) hb i (nD (List.range b.ns.length)) i [] none (by simp [nD]; omega) hi (by simp; omega)
  rw [List.append_nil] at hl
  refine call_rt C._law_way rfl rfl rfl rfl (r_set (d := .lst (nD [i])) (s1 := s) rfl (r_for (s1 := s) (xs := nD (List.range b.ns.length)) ?_ hl (r_rtn rfl)))
  show bnd (evEs (cxK G k) (.cons (.bi .len (.cons (.v 0) .nil)) .nil) [some (.lst (b.ns.map Nd.d)), some (.int (i : Int)), some (.lst (nD [i])), none]) (fun xs => opt (rngD xs)) s = _
  rw [bnd_ok (r_es1 (r_bi (r_es1 rfl) (len_row rfl))), List.length_map, rng_len (by omega)]
  rfl
/-! ### with a look at the model -/
theorem needM_ok (T : Tre G) : (orcAt G (k+1)).fn "need_model" [b.model] s = .ok .non s := by
  refine call_nx (e := [some b.model]) T.need_model rfl rfl rfl (r_by (tt_not (q := true) (tt_val (r_isi (q := true) rfl ?_) rfl)) rfl)
  show (match G.isa "Model" "Model" with
    | some true => some true
    | some false => isiAny G.isa b.model []
    | none => none) = some true
  rw [T.isa]
theorem whole_ok (T : Tre G) (i : Int) : (orcAt G (k+1)).fn "is_whole" [.int i] s = .ok (.bl true) s := call_rt T.is_whole rfl rfl rfl rfl rfl
theorem between_ok (T : Tre G) {i m : Int} {w : Str} (h0 : 0 ≤ i) (h1 : i ≤ m) : (orcAt G (k+2)).fn "need_between" [.str w, .int i, .int 0, .int m] s = .ok .non s := by
  have c1 : cmpD .Lt (.int i) (.int 0) s = .ok false s := by
    show R.ok (decide (i < 0)) s = _
    rw [decide_eq_false (by omega)]
  have c2 : cmpD .Gt (.int i) (.int m) s = .ok false s := by
    show R.ok (decide (m < i)) s = _
    rw [decide_eq_false (by omega)]
  exact call_nx (e := [some (.str w), some (.int i), some (.int 0), some (.int m)]) T.need_between rfl rfl rfl (r_by (tt_not (q := true) (tt_val (r_call rfl (whole_ok T i)) rfl)) (r_by (tt_or (q := false) (s1 := s) (tt_and (q := true) (s1 := s) rfl (tt_cmp rfl rfl c1)) (tt_and (q := true) (s1 := s) rfl (tt_cmp rfl rfl c2))) rfl))
theorem needN_ok (T : Tre G) {i : Nat} (hi : i < b.ns.length) : (orcAt G (k+3)).fn "need_node" [b.model, .int (i : Int)] s = .ok .non s :=
  call_nx (e := [some b.model, some (.int (i : Int))]) T.need_node rfl rfl rfl (r_exp (r_call (r_esc rfl (r_esc rfl (r_esc rfl (r_es1 (r_bin (nodes_len _ _ rfl) rfl rfl))))) (between_ok T (by omega) (by omega))) rfl)
theorem childrenM (C : Chi G) (T : Tre G) (hb : b.Ok) {i : Nat} (hi : i < b.ns.length) : (orcAt G (k+4)).fn "children" [b.model, .int (i : Int)] s = .ok (.tup (nD (childL (PS b.ns) i))) s :=
  call_rt C.children rfl rfl rfl rfl (r_exp (r_call rfl (needM_ok T)) (r_exp (r_call rfl (needN_ok T hi)) (r_rtn (r_call rfl (children_ok C T (by have := hb.l6; omega))))))
theorem pathM (K : Base G) (C : Chi G) (T : Tre G) (hb : b.Ok) {i : Nat} (hi : i < b.ns.length) : (orcAt G (k+4)).fn "path" [b.model, .int (i : Int)] s = .ok (.tup (nD (wayL (PS b.ns) i))) s :=
  call_rt C.path rfl rfl rfl rfl (r_exp (r_call rfl (needM_ok T)) (r_exp (r_call rfl (needN_ok T hi)) (r_rtn (r_call rfl (path_ok K T hb hi)))))
theorem leavesM (C : Chi G) (T : Tre G) (hb : b.Ok) : (orcAt G (k+4)).fn "leaves" [b.model] s = .ok (.tup (nD (leavesP (PS b.ns)))) s :=
  call_rt C.leaves rfl rfl rfl rfl (r_exp (r_call rfl (needM_ok T)) (r_rtn (r_call rfl (leavesP_ok T (by have := hb.l6; omega)))))
theorem innerM (C : Chi G) (T : Tre G) (hb : b.Ok) : (orcAt G (k+4)).fn "inner_nodes" [b.model] s = .ok (.tup (nD (innerL (PS b.ns)))) s :=
  call_rt C.inner_nodes rfl rfl rfl rfl (r_exp (r_call rfl (needM_ok T)) (r_rtn (r_call rfl (inner_ok T (by have := hb.l6; omega)))))
theorem beyondM (K : Base G) (C : Chi G) (T : Tre G) (hb : b.Ok) {i : Nat} (hi : i < b.ns.length) : (orcAt G (k+4)).fn "beyond" [b.model, .int (i : Int)] s = .ok (.tup (nD (beyondL (PS b.ns) i))) s := by
  have h6 := hb.l6
  refine call_rt C.beyond rfl rfl rfl rfl (r_exp (r_call rfl (needM_ok T)) (r_exp (r_call rfl (needN_ok T hi)) (r_rtn (r_bi (r_es1 (r_comp (ys := nD (beyondL (PS b.ns) i)) (rng_nodes _ _ rfl (by omega)) ?_ (by unfold beyondL; rw [ps_len]; exact flt_len _ _ (by omega)) rfl rfl)) rfl))))
  unfold beyondL
  rw [← filter_map_if, ps_len]
  refine loopC_pm (fun (i : Nat) => D.int (i : Int)) _ fun j hj => ?_
  exact c_if (q := decide (i ∈ wayL (PS b.ns) j)) rfl (tt_cmp rfl (r_call rfl (path_ok K T hb (by simpa using hj))) (in_nt s i _)) (fun _ => rfl) fun _ => rfl
end
end Kin
end
section
set_option linter.all false
set_option maxRecDepth 100000
set_option maxHeartbeats 1000003
namespace Kin
open PySem Ev
variable {G : Gl}
/-! ### what repr writes -/
def Shw (d : D) (n h : Nat) : Prop := ∃ p, toPyX d = some p ∧ p.leavesShort 600 = true ∧ p.showable = true ∧ p.bulk ≤ n ∧ p.depth ≤ h ∧ p.hasDict = false
set_option exponentiation.threshold 3000 in
theorem p1900 : (2 : Nat) ^ 1900 < 10 ^ 573 := by decide +kernel
set_option exponentiation.threshold 3000 in
theorem Shw.int {i : Int} (h : i.natAbs < 2 ^ 1900) : Shw (.int i) 0 0 := by
  refine ⟨.int i, rfl, ?_, ?_, ?_, ?_, by simp [PyData.hasDict]⟩
  · simp only [PyData.leavesShort, decide_eq_true_eq]
    have e := int_text_length_le10 (k := 573) (by decide) (Nat.lt_trans h p1900)
    show (Str.ofString (toString i)).length ≤ 600
    rw [ofString_length]
    omega
  · simp only [PyData.showable, decide_eq_true_eq]
    by_cases h0 : i.natAbs = 0
    · rw [h0]; decide
    · exact Nat.lt_trans ((Nat.log2_lt h0).mpr h) (by decide)
  · simp [PyData.bulk]
  · simp [PyData.depth]
theorem Shw.bl (q : Bool) : Shw (.bl q) 0 0 := ⟨.bool q, rfl, by simp [PyData.leavesShort], by simp [PyData.showable], by simp [PyData.bulk], by simp [PyData.depth], by simp [PyData.hasDict]⟩
theorem Shw.non : Shw .non 0 0 := ⟨.none, rfl, by simp [PyData.leavesShort], by simp [PyData.showable], by simp [PyData.bulk], by simp [PyData.depth], by simp [PyData.hasDict]⟩
theorem Shw.mono {d : D} {n h m g : Nat} (s : Shw d n h) (h1 : n ≤ m) (h2 : h ≤ g) : Shw d m g := by
  obtain ⟨p, a, b, c, e, f, i⟩ := s
  exact ⟨p, a, b, c, by omega, by omega, i⟩
theorem Shw.all {n h : Nat} : ∀ {xs : List D}, (∀ d ∈ xs, Shw d n h) → ∃ ps, toPyXs xs = some ps ∧ PyData.leavesShortAll 600 ps = true ∧ PyData.showableAll ps = true ∧ PyData.bulkAll ps ≤ xs.length * (n + 1) ∧ PyData.depthAll ps ≤ h ∧ PyData.hasDictAll ps = false
  | [], _ => ⟨[], rfl, by simp [PyData.leavesShortAll], by simp [PyData.showableAll], by simp [PyData.bulkAll], by simp [PyData.depthAll], by simp [PyData.hasDictAll]⟩
  | d :: xs, hh => by
    obtain ⟨p, a1, a2, a3, a4, a5, a6⟩ := hh d (List.mem_cons_self ..)
    obtain ⟨ps, b1, b2, b3, b4, b5, b6⟩ := Shw.all (xs := xs) fun d hd => hh d (List.mem_cons_of_mem _ hd)
    refine ⟨p :: ps, by rw [toPyXs, a1, b1], by rw [PyData.leavesShortAll, a2, b2]; rfl, by rw [PyData.showableAll, a3, b3]; rfl, ?_, by rw [PyData.depthAll]; omega, by rw [PyData.hasDictAll, a6, b6]; rfl⟩
    rw [PyData.bulkAll, List.length_cons, Nat.add_mul]
    omega
theorem Shw.tup {n h : Nat} {xs : List D} (hh : ∀ d ∈ xs, Shw d n h) : Shw (.tup xs) (xs.length * (n + 1)) (h + 1) := by
  obtain ⟨ps, b1, b2, b3, b4, b5, b6⟩ := Shw.all hh
  refine ⟨.tuple ps, by rw [toPyX, b1]; rfl, by rw [PyData.leavesShort]; exact b2, by rw [PyData.showable]; exact b3, by rw [PyData.bulk]; exact b4, by rw [PyData.depth]; omega, by rw [PyData.hasDict]; exact b6⟩
theorem Shw.lst {n h : Nat} {xs : List D} (hh : ∀ d ∈ xs, Shw d n h) : Shw (.lst xs) (xs.length * (n + 1)) (h + 1) := by
  obtain ⟨ps, b1, b2, b3, b4, b5, b6⟩ := Shw.all hh
  refine ⟨.list ps, by rw [toPyX, b1]; rfl, by rw [PyData.leavesShort]; exact b2, by rw [PyData.showable]; exact b3, by rw [PyData.bulk]; exact b4, by rw [PyData.depth]; omega, by rw [PyData.hasDict]; exact b6⟩
theorem Shw.repr {d : D} {n h : Nat} (s : Shw d n h) (h1 : n ≤ 1600) (h2 : h ≤ 64) : ∃ t, reprD d = some t := by
  obtain ⟨p, a, b, c, e, f, g⟩ := s
  have h7 := PyData.shown_le_bulk 600 (by omega) p b
  refine ⟨p.shown, ?_⟩
  unfold reprD
  rw [a]
  show (if _ then some p.shown else none) = _
  rw [decide_eq_true (by omega), c, decide_eq_true (by omega), g]
  rfl
set_option exponentiation.threshold 3000 in
theorem Shw.nt {l : List Nat} (hl : l.length ≤ 1000) (h : ∀ x ∈ l, x < 1000) : Shw (.tup (nD l)) 1000 1 := by
  refine (Shw.tup (n := 0) (h := 0) ?_).mono (by simp [nD]; omega) (by omega)
  intro d hd
  obtain ⟨i, hi, rfl⟩ := List.mem_map.mp hd
  have := h i hi
  exact Shw.int (Nat.lt_trans (show ((i : Nat) : Int).natAbs < 1024 by omega) (by decide))
theorem bi_repr {d : D} {t : Str} {s : Sto} (hp : thD d s = d) (h : reprD d = some t) : biD .repr [d] s = .ok (.str t) s := by
  show opD ((reprD (thD d s)).map .str) s = _
  rw [hp, h]
  rfl
/-- two reprs of the same thing are not unlike -/
theorem ne_repr {X : Cx'} {e : En} {s s1 s2 : Sto} {a b : E} {d : D} (h1 : evE X a e s = .ok d s1) (h2 : evE X b e s1 = .ok d s2) (hp : ∀ s, thD d s = d) (hr : ∃ t, reprD d = some t) : evT X (.cmp .NotEq (.bi .repr (.cons a .nil)) (.bi .repr (.cons b .nil))) e s = .ok false s2 := by
  obtain ⟨t, ht⟩ := hr
  exact tt_cmp (r_bi (r_es1 h1) (bi_repr (hp _) ht)) (r_bi (r_es1 h2) (bi_repr (hp _) ht)) (ne_str _ _)
/-! ### sorted rows -/
def insN (x : Nat) : List Nat → List Nat
  | [] => [x]
  | y :: ys => if x ≤ y then x :: y :: ys else y :: insN x ys
def sortN (xs : List Nat) : List Nat := xs.foldr insN []
theorem ins_cast (a : Nat) : ∀ l : List Nat, insI (a : Int) (l.map fun (i : Nat) => (i : Int)) = (insN a l).map fun (i : Nat) => (i : Int)
  | [] => rfl
  | b :: l => by
    show (if (a : Int) ≤ (b : Int) then _ else _) = _
    unfold insN
    by_cases h : a ≤ b
    · rw [if_pos (by omega), if_pos h]; rfl
    · rw [if_neg (by omega), if_neg h]
      show (b : Int) :: insI (a : Int) (l.map fun (i : Nat) => (i : Int)) = _
      rw [ins_cast a l]
      rfl
theorem sort_cast : ∀ l : List Nat, sortI (l.map fun (i : Nat) => (i : Int)) = (sortN l).map fun (i : Nat) => (i : Int)
  | [] => rfl
  | a :: l => by
    show insI (a : Int) (sortI (l.map fun (i : Nat) => (i : Int))) = _
    rw [sort_cast l, ins_cast]
    rfl
theorem sorted_ok {l : List Nat} {s : Sto} : mkD .sorted false [.lst (nD l)] s = .ok (.lst (nD (sortN l))) s := by
  refine (mk_ok (o := .lst (nD (sortN l))) ?_).trans rfl
  show (intsOf (nD l)).map (fun is => MO.lst ((sortI is).map .int)) = _
  rw [ints_nD]
  show some (MO.lst ((sortI _).map D.int)) = _
  rw [sort_cast, List.map_map]
  rfl
/-! ### the trees there are -/
def allPs : Nat → List (List (Option Nat))
  | 0 => [[none]]
  | n + 1 => (allPs n).flatMap fun ps => (List.range (n + 1)).map fun j => ps ++ [some j]
theorem PsOk.mem : ∀ (n : Nat) (ps : List (Option Nat)), PsOk ps → ps.length = n + 1 → ps ∈ allPs n
  | 0, ps, h, hl => by
    match ps, hl with
    | [o], _ =>
      rw [h.p0 o rfl]
      exact List.mem_cons_self ..
  | n + 1, ps, h, hl => by
    have hne : ps ≠ [] := by
      intro z
      rw [z] at hl
      simp at hl
    have e := List.dropLast_concat_getLast hne
    have hd : ps.dropLast.length = n + 1 := by simp [hl]
    have hlast : ps[n + 1]? = some (ps.getLast hne) := by
      rw [List.getLast_eq_getElem, List.getElem?_eq_getElem (by omega)]
      congr 2
      omega
    obtain ⟨j, hj, ej⟩ := h.p1 (n + 1) _ (by omega) hlast
    have hd2 : PsOk ps.dropLast := by
      have sub : ∀ (k : Nat) o, ps.dropLast[k]? = some o → ps[k]? = some o := by
        intro k o hk
        have hk2 : k < n + 1 := by
          have := (List.getElem?_eq_some_iff.mp hk).1
          omega
        rw [← e, List.getElem?_append_left (by omega)]
        exact hk
      have := h.l6
      exact ⟨by omega, by omega, fun o ho => h.p0 o (sub 0 o ho), fun k o hk ho => h.p1 k o hk (sub k o ho)⟩
    have := PsOk.mem n ps.dropLast hd2 hd
    rw [← e, ej]
    exact List.mem_flatMap.mpr ⟨_, this, List.mem_map.mpr ⟨j, by simpa using hj, rfl⟩⟩
def allTrees : List (List (Option Nat)) := allPs 0 ++ allPs 1 ++ allPs 2 ++ allPs 3 ++ allPs 4 ++ allPs 5
theorem PsOk.tree {ps : List (Option Nat)} (h : PsOk ps) : ps ∈ allTrees := by
  have h1 := h.l1
  have h6 := h.l6
  have : ps.length = 0 + 1 ∨ ps.length = 1 + 1 ∨ ps.length = 2 + 1 ∨ ps.length = 3 + 1 ∨ ps.length = 4 + 1 ∨ ps.length = 5 + 1 := by omega
  unfold allTrees
  simp only [List.mem_append]
  rcases this with e | e | e | e | e | e
  · exact .inl (.inl (.inl (.inl (.inl (h.mem 0 ps e)))))
  · exact .inl (.inl (.inl (.inl (.inr (h.mem 1 ps e)))))
  · exact .inl (.inl (.inl (.inr (h.mem 2 ps e))))
  · exact .inl (.inl (.inr (h.mem 3 ps e)))
  · exact .inl (.inr (h.mem 4 ps e))
  · exact .inr (h.mem 5 ps e)
/-- what holds of all trees -/
theorem PsOk.chk {ps : List (Option Nat)} (h : PsOk ps) {f : List (Option Nat) → Bool} (c : allTrees.all f = true) : f ps = true := List.all_eq_true.mp c ps h.tree
end Kin
end
section
set_option linter.all false
set_option maxRecDepth 100000
set_option maxHeartbeats 1000003
namespace Kin
open PySem Ev
variable {G : Gl}
/-! ### closures that raise, and what is due -/
theorem envS_last : ∀ {s : Sto} {is : List Nat} {ys : List D}, noEnv s = true → is ≠ [] → envS (s ++ [.env is ys]) = some (s.length, is, ys)
  | [], i :: is, ys, _, _ => rfl
  | [], [], ys, _, h => absurd rfl h
  | o :: s, is, ys, h, h2 => by
    have h3 : noEnv s = true := by
      unfold noEnv at h ⊢
      rw [List.all_cons, Bool.and_eq_true] at h
      exact h.2
    have ih := envS_last (ys := ys) h3 h2
    have : ∀ o : MO, (∀ i js xs, o ≠ .env (i :: js) xs) → envS (o :: (s ++ [.env is ys])) = (envS (s ++ [.env is ys])).map fun q => (q.1 + 1, q.2) := by
      intro o ho
      cases o with
      | env js xs =>
        cases js with
        | nil => rfl
        | cons i js => exact absurd rfl (ho i js xs)
      | _ => rfl
    rw [List.cons_append, this o, ih]
    · rfl
    · intro i js xs z
      subst z
      unfold noEnv at h
      rw [List.all_cons] at h
      simp at h
section
variable {k : Nat} {s : Sto}
theorem clo_exc {l : Nat} {L : Lam} {is : List Nat} {ys : List D} {x : Ex} (hl : G.lam l = some L) (hs : noEnv s = true) (h0 : is ≠ []) (h1 : (decide is.Nodup && L.fv.all (is.contains ·)) = true)
    (h : evE (cxK G k) L.body (fillE (List.replicate L.nl none) is ys) (s ++ [.env [] []]) = .exc x (s ++ [.env [] []])) : (orcAt G (k+1)).clo l (s ++ [.env is ys]) = .exc x (s ++ [.env is ys]) := by
  have h' : evE ⟨G.con, G.isa, G.exs, orcAt G k, G.wf, none⟩ L.body (fillE (List.replicate L.nl none) is ys) (s ++ [.env [] []]) = .exc x (s ++ [.env [] []]) := h
  have e1 : (s ++ [MO.env is ys]).set s.length (.env [] []) = s ++ [.env [] []] := by simp
  have e2 : (s ++ [MO.env [] []])[s.length]? = some (.env [] []) := by simp
  have e3 : (s ++ [MO.env [] []]).set s.length (.env is ys) = s ++ [.env is ys] := by simp
  simp only [orcAt, hl, envS_last hs h0, h1, if_true, e1, h', e2, e3]
  rw [List.take_length]
inductive Flt : Ex → D → Prop where
  | num {w : Str} {v : D} : plainD v = true → Flt ⟨"BadNumber", [("what" : Str), "number"], [.str w, v]⟩ (.tup [.str "number", .str w, v])
  | row {v : D} : plainD v = true → Flt ⟨"BadRow", [("row" : Str)], [v]⟩ (.tup [.str "row", v])
  | tab {v : D} : plainD v = true → Flt ⟨"BadTable", [("table" : Str)], [v]⟩ (.tup [.str "table", v])
  | unl {w : Str} : Flt ⟨"Unlike", [("what" : Str)], [.str w]⟩ (.tup [.str "unlike", .str w])
structure Exs (G : Gl) : Prop where
  n : G.exs "BadNumber" = some [("what" : Str), "number"]
  r : G.exs "BadRow" = some [("row" : Str)]
  t : G.exs "BadTable" = some [("table" : Str)]
  u : G.exs "Unlike" = some [("what" : Str)]
theorem fault_ok (Tb : Tab G) (Xs : Exs G) {l : Nat} {x : Ex} {d : D} (hc : (orcAt G k).clo l s = .exc x s) (f : Flt x d) : (orcAt G (k+1)).fn "_law_table_fault" [.clo l] s = .ok d s := by
  have hb : ∀ b r, evSs (cxK G k) (.cons (.exp (.cal 0 .nil)) r) [some (.clo l), b] s = .exc x s := by
    intro b r
    show bnd (bnd ((orcAt G k).clo l) _) _ s = _
    rw [bnd_bnd]
    unfold bnd
    rw [hc]
  have main : ∀ hs : Hs, ∀ b : Ss, evSs (cxK G k) b [some (.clo l), none] s = .exc x s → (cxK G k).exs x.c = some x.fs → evHs (cxK G k) hs x s = .ok (.rt d) s → evSs (cxK G k) (.cons (.try_ 1 b hs) .nil) [some (.clo l), none] s = .ok (.rt d) s := by
    intro hs b h1 h2 h3
    have : evS (cxK G k) (.try_ 1 b hs) [some (.clo l), none] s = .ok (.rt d) s := by
      show (match evSs (cxK G k) b [some (.clo l), none] s with
        | .ok fl s' => R.ok fl s'
        | .exc x s' => if decide ((cxK G k).exs x.c = some x.fs) then evHs (cxK G k) hs x s' else R.no
        | .no => R.no) = _
      rw [h1]
      show (if decide ((cxK G k).exs x.c = some x.fs) then evHs (cxK G k) hs x s else R.no) = _
      rw [decide_eq_true h2]
      exact h3
    show bnd (evS (cxK G k) (.try_ 1 b hs) [some (.clo l), none]) _ s = _
    rw [bnd_ok this]
    rfl
  have fr : ∀ {ds : List D}, (∀ y ∈ ds, plainD y = true) → frzDs ds s = .ok ds s := fun h => frzs_plain h
  cases f with
  | @num w v hv =>
    refine call_rt Tb._law_table_fault rfl rfl rfl rfl (main _ _ (hb _ _) Xs.n ?_)
    show bnd (bnd (frzDs [D.str "number", .str w, v]) fun xs => ret (D.tup xs)) (fun d => ret (Fl.rt d)) s = _
    rw [bnd_bnd, bnd_ok (fr (ds := [D.str "number", .str w, v]) (by
      intro y hy
      simp only [List.mem_cons, List.not_mem_nil, or_false] at hy
      rcases hy with rfl | rfl | rfl
      · rfl
      · rfl
      · exact hv))]
    rfl
  | @row v hv =>
    refine call_rt Tb._law_table_fault rfl rfl rfl rfl (main _ _ (hb _ _) Xs.r ?_)
    show bnd (bnd (frzDs [D.str "row", v]) fun xs => ret (D.tup xs)) (fun d => ret (Fl.rt d)) s = _
    rw [bnd_bnd, bnd_ok (two_frz rfl hv s)]
    rfl
  | @tab v hv =>
    refine call_rt Tb._law_table_fault rfl rfl rfl rfl (main _ _ (hb _ _) Xs.t ?_)
    show bnd (bnd (frzDs [D.str "table", v]) fun xs => ret (D.tup xs)) (fun d => ret (Fl.rt d)) s = _
    rw [bnd_bnd, bnd_ok (two_frz rfl hv s)]
    rfl
  | @unl w =>
    refine call_rt Tb._law_table_fault rfl rfl rfl rfl (main _ _ (hb _ _) Xs.u ?_)
    show bnd (bnd (frzDs [D.str "unlike", .str w]) fun xs => ret (D.tup xs)) (fun d => ret (Fl.rt d)) s = _
    rw [bnd_bnd, bnd_ok (two_frz rfl rfl s)]
    rfl
theorem Flt.tup {x : Ex} {d : D} (f : Flt x d) : ∃ xs, d = .tup xs := by
  cases f <;> exact ⟨_, rfl⟩
theorem all_true {ι : Type} : ∀ (l : List ι) (s : Sto), biD .all [.lst (l.map fun _ => D.bl true)] s = .ok (.bl true) s := by
  have : ∀ l : List ι, (blsOf (l.map fun _ => D.bl true)).map (fun bs => D.bl (bs.all id)) = some (.bl true) := by
    have h2 : ∀ l : List ι, ∃ bs, blsOf (l.map fun _ => D.bl true) = some bs ∧ bs.all id = true := by
      intro l
      induction l with
      | nil => exact ⟨[], rfl, rfl⟩
      | cons a l ih =>
        obtain ⟨bs, h1, h2⟩ := ih
        refine ⟨true :: bs, ?_, by simpa using h2⟩
        show (blsOf (l.map fun _ => D.bl true)).map (true :: ·) = _
        rw [h1]
        rfl
    intro l
    obtain ⟨bs, h1, h3⟩ := h2 l
    rw [h1]
    show some (D.bl (bs.all id)) = _
    rw [h3]
  intro l s
  show opD ((blsOf (l.map fun _ => D.bl true)).map (fun bs => D.bl (bs.all id))) s = _
  rw [this]
  rfl
def tryD (p : Nat × D) : D := .tup [.clo p.1, p.2]
theorem eq_str (t : Str) (s : Sto) : cmpD .Eq (.str t) (.str t) s = .ok true s := by
  show opB (some (decide (t = t))) s = _
  rw [decide_eq_true rfl]
  rfl
theorem tables_ok (Tb : Tab G) (Xs : Exs G) {m : Nat} {tries : List (Nat × D)} (hm : s[m]? = some (.lst (tries.map tryD))) (hl : tries.length ≤ 1000)
    (h : ∀ p ∈ tries, ∃ x, (orcAt G k).clo p.1 (s.set m (.fr (.lst (tries.map tryD)))) = .exc x (s.set m (.fr (.lst (tries.map tryD)))) ∧ Flt x p.2 ∧ ∃ t, reprD p.2 = some t) : (orcAt G (k+2)).fn "_law_tables_due" [.mu m] s = .ok (.bl true) (s.set m (.fr (.lst (tries.map tryD)))) := by
  have ei : evItQ (cxK G (k+1)) (.seq (.v 0)) [some (.mu m), none, none] s = .ok (tries.map tryD, none) (s.set m (.fr (.lst (tries.map tryD)))) := by
    show bnd (bnd (fun s => frzD (.mu m) s) fun x => opt (itemsO x)) _ s = _
    rw [bnd_bnd, bnd_ok (frz_lst hm)]
    rfl
  refine call_rt Tb._law_tables_due rfl rfl (by simp) rfl (r_rtn (r_bi (r_es1 (r_comp (ys := tries.map fun _ => .bl true) ei ?_ (by simp; omega) rfl rfl)) (all_true _ _)))
  have e : (tries.map fun _ => D.bl true) = tries.filterMap fun _ => some (D.bl true) := by
    rw [List.filterMap_eq_map']
  rw [e]
  refine loopC_pm tryD _ fun p hp => ?_
  obtain ⟨x, h1, h2, t, h3⟩ := h p hp
  obtain ⟨xs, hx⟩ := h2.tup
  have ht : ∀ s, thD p.2 s = p.2 := fun s => by rw [hx]; rfl
  exact c_elt rfl (r_cmp (r_bi (r_es1 (r_call rfl (fault_ok Tb Xs h1 h2))) (bi_repr (ht _) h3)) (r_bi (r_es1 rfl) (bi_repr (ht _) h3)) (eq_str _ _)) rfl
theorem noEnv_app {s t : Sto} : noEnv (s ++ t) = (noEnv s && noEnv t) := by
  unfold noEnv
  rw [List.all_append]
theorem due_ok (Tb : Tab G) (Xs : Exs G) {s0 : Sto} {tries : List (Nat × D)} {is : List Nat} {ys : List D} {e : En} {vi : Nat} (hv : e[vi]? = some (some (.mu s0.length))) (hc : capD e is = some ys) (hp : ys.all plainD = true) (hn : noEnv s0 = true) (h0 : is ≠ []) (hl : tries.length ≤ 1000)
    (h : ∀ p ∈ tries, ∃ x L, G.lam p.1 = some L ∧ (decide is.Nodup && L.fv.all (is.contains ·)) = true ∧ (∀ s, evE (cxK G k) L.body (fillE (List.replicate L.nl none) is ys) s = .exc x s) ∧ Flt x p.2 ∧ ∃ t, reprD p.2 = some t) :
    evE (cxK G (k+3)) (.callC "_law_tables_due" (.cons (.v vi) .nil) is) e (s0 ++ [.lst (tries.map tryD)]) = .ok (.bl true) (s0 ++ [.fr (.lst (tries.map tryD))]) := by
  have h1 : evEs (cxK G (k+3)) (.cons (.v vi) .nil) e (s0 ++ [.lst (tries.map tryD)]) = .ok [.mu s0.length] (s0 ++ [.lst (tries.map tryD)]) := r_es1 (by
    show (match e[vi]? with | some (some d) => Ev.ret d | _ => Ev.no) _ = _
    rw [hv]
    rfl)
  have e1 : (s0 ++ [MO.lst (tries.map tryD)] ++ [MO.env is ys])[s0.length]? = some (.lst (tries.map tryD)) := by simp
  have e2 : (s0 ++ [MO.lst (tries.map tryD)] ++ [MO.env is ys]).set s0.length (.fr (.lst (tries.map tryD))) = (s0 ++ [MO.fr (.lst (tries.map tryD))]) ++ [MO.env is ys] := by simp
  have hn2 : noEnv (s0 ++ [MO.fr (.lst (tries.map tryD))]) = true := by
    rw [noEnv_app, hn]
    rfl
  have ht := tables_ok (G := G) (k := k + 1) Tb Xs e1 hl (by
    intro p hpm
    obtain ⟨x, L, g1, g2, g3, g4, g5⟩ := h p hpm
    rw [e2]
    exact ⟨x, clo_exc g1 hn2 h0 g2 (g3 _), g4, g5⟩)
  rw [e2] at ht
  have h5 : ((s0 ++ [MO.fr (.lst (tries.map tryD))]) ++ [MO.env is ys]).take (s0 ++ [MO.lst (tries.map tryD)]).length = s0 ++ [MO.fr (.lst (tries.map tryD))] := by
    have : (s0 ++ [MO.lst (tries.map tryD)]).length = (s0 ++ [MO.fr (.lst (tries.map tryD))]).length := by simp
    rw [this, List.take_left' rfl]
  have hr := r_callC (X := cxK G (k+3)) (f := "_law_tables_due") h1 hc (frzs_plain (List.all_eq_true.mp hp)) ht (by rw [h5]; exact hn2)
  rw [h5] at hr
  exact hr
end
end Kin
end
section
set_option linter.all false
set_option maxRecDepth 100000
set_option maxHeartbeats 1000003
namespace Kin
open PySem Ev
variable {G : Gl}
/-! ### the pen's begin -/
def penB : Ss := .cons (.asg (.name 1) (.bin .Mod (.bi .int (.cons (.bin .Add (.bin .Mult (.v 1) (.c (.int 191))) (.v 2)) .nil)) (.c (.int 999999137)))) .nil
theorem pen_loop (k : Nat) (sc : D) : ∀ (ns : List Int) (f : Int) (o : Option D), 0 ≤ f → f < 2147483648 → ∃ f' o', loopF (forT (cxK G k) (.name 2) penB) (ns.map .int) [some sc, some (.int f), o] [] = .ok (.nx [some sc, some (.int f'), o']) [] ∧ 0 ≤ f' ∧ f' < 2147483648
  | [], f, o, h0, h1 => ⟨f, o, rfl, h0, h1⟩
  | n :: ns, f, o, h0, h1 => by
    have l1 := Int.emod_lt_of_pos (f * 191 + n) (b := 999999137) (by omega)
    obtain ⟨f', o', e, q⟩ := pen_loop k sc ns ((f * 191 + n) % 999999137) (some (.int n)) (Int.emod_nonneg _ (by omega)) (by omega)
    refine ⟨f', o', loopF_nx ?_ e, q⟩
    show evSs (cxK G k) penB [some sc, some (.int f), some (.int n)] [] = _
    exact r_set (r_bin (r_bi (r_es1 (r_bin (r_bin rfl rfl (mul_int (szI_lt (k := 40) (by omega) (by omega)) rfl _)) rfl rfl)) rfl) rfl (mod_int (by decide) _)) rfl
theorem pen_ok (P : Penn G) (k : Nat) (ns : List Int) : ∃ p, (orcAt G (k+1)).fn "_law_pen" [.scr ns] [] = .ok (.mu 0) [PnT.mo p] ∧ p.Ok 0 := by
  obtain ⟨f', o', e, h0, h1⟩ := pen_loop (G := G) k (.scr ns) ns 0 none (by omega) (by omega)
  refine ⟨⟨ns, 0, 0, 0, f'⟩, ?_, ⟨Int.le_refl _, Int.le_refl _, Int.le_refl _, Int.le_refl _, h0, h1⟩⟩
  rw [call_def P._law_pen rfl rfl]
  have hb : evSs (cxK G k) F__law_pen.body (env0 F__law_pen [.scr ns]) [] = .ok (.rt (.mu 0)) [PnT.mo ⟨ns, 0, 0, 0, f'⟩] :=
    r_set rfl (r_for rfl e (r_rtn rfl))
  unfold runB
  have hb' : evSs (cxK G k) F__law_pen.body (([.scr ns] : List D).map some ++ List.replicate (F__law_pen.nl - ([.scr ns] : List D).length) none) [] = .ok (.rt (.mu 0)) [PnT.mo ⟨ns, 0, 0, 0, f'⟩] := hb
  rw [hb']
  rfl
/-! ### rows one behind another -/
def flatB : Ss := .cons (.asg (.name 1) (.bin .Add (.v 1) (.bi .tuple (.cons (.v 2) .nil)))) .nil
theorem flat_loop (k : Nat) (d : D) (s : Sto) : ∀ (ls : List (List Nat)) (acc : List Nat) (o : Option D), acc.length + ls.flatten.length ≤ 1000000 → ∃ o', loopF (forT (cxK G k) (.name 2) flatB) (ls.map fun l => .tup (nD l)) [some d, some (.tup (nD acc)), o] s = .ok (.nx [some d, some (.tup (nD (acc ++ ls.flatten))), o']) s
  | [], acc, o, _ => ⟨o, by simp; rfl⟩
  | l :: ls, acc, o, h => by
    rw [List.flatten_cons, List.length_append] at h
    obtain ⟨o', e⟩ := flat_loop k d s ls (acc ++ l) (some (.tup (nD l))) (by rw [List.length_append]; omega)
    refine ⟨o', loopF_nx (e' := [some d, some (.tup (nD (acc ++ l))), some (.tup (nD l))]) ?_ (by rw [List.flatten_cons, ← List.append_assoc]; exact e)⟩
    refine r_set (r_bin (x := .tup (nD acc)) (y := .tup (nD l)) (s1 := s) (s2 := s) (RD := .ok (.tup (nD (acc ++ l))) s) rfl rfl ?_) rfl
    show opD (if decide ((nD acc).length + (nD l).length ≤ 1000000) then some (D.tup (nD acc ++ nD l)) else none) s = _
    rw [decide_eq_true (by simp [nD]; omega)]
    show R.ok (D.tup (nD acc ++ nD l)) s = _
    unfold nD
    rw [List.map_append]
theorem flat_ok (C : Chi G) {k : Nat} {s : Sto} {ls : List (List Nat)} (h : ls.flatten.length ≤ 1000000) : (orcAt G (k+1)).fn "_law_flat" [.lst (ls.map fun l => .tup (nD l))] s = .ok (.tup (nD ls.flatten)) s := by
  obtain ⟨o', e⟩ := flat_loop (G := G) k (.lst (ls.map fun l => .tup (nD l))) s ls [] none (by simpa using h)
  exact call_rt C._law_flat rfl rfl rfl rfl (r_set (d := .tup (nD [])) (s1 := s) rfl (r_for (s1 := s) (xs := ls.map fun l => .tup (nD l)) rfl e (r_rtn rfl)))
end Kin
end
section
set_option linter.all false
set_option maxRecDepth 100000
set_option maxHeartbeats 1000003
namespace Kin
open PySem Ev
variable {G : Gl}
/-! ### what is no model, no node -/
inductive Odd : D → Prop where
  | non : Odd .non
  | five : Odd (.int 5)
  | dct {ks : List Ky} {xs : List D} : Odd (.dct ks xs)
theorem Odd.plain {d : D} (h : Odd d) : plainD d = true := by cases h <;> rfl
inductive Far : D → Prop where
  | neg : Far (.int (-1))
  | big : Far (.int 15)
  | non : Far .non
  | tru : Far (.bl true)
  | txt : Far (.str "0")
  | tup : Far (.tup [.int 0])
theorem Far.plain {d : D} (h : Far d) : plainD d = true := by cases h <;> rfl
theorem Far.rp {d : D} (h : Far d) : ∃ t, reprD (.tup [.str "number", .str "node", d]) = some t := by
  cases h <;> exact ⟨_, by with_unfolding_all rfl⟩
def exU : Ex := ⟨"Unlike", [("what" : Str)], [.str "model"]⟩
def exN (far : D) : Ex := ⟨"BadNumber", [("what" : Str), "number"], [.str "node", far]⟩
section
variable {k : Nat} {b : Bk} {s : Sto}
theorem needM_exc (T : Tre G) {d : D} (h : Odd d) : (orcAt G (k+1)).fn "need_model" [d] s = .exc exU s := by
  refine call_exc T.need_model rfl rfl rfl (r_stop (r_ite (q := true) (s1 := s) (tt_not (q := false) (tt_val (r_isi (q := false) rfl ?_) rfl)) (r_rse (r_es1 rfl) rfl T.xU rfl)))
  have : isiD G.isa d (.own "Model") = some false := by
    cases h <;> (show (if (G.isa "Model" "Model").isSome then some false else none) = some false; rw [T.isa]; rfl)
  have ht : thD d s = d := by cases h <;> rfl
  show isiAny G.isa (thD d s) [.own "Model"] = some false
  rw [ht]
  show (match isiD G.isa d (.own "Model") with
    | some true => some true
    | some false => some false
    | none => none) = some false
  rw [this]
theorem whole_no (T : Tre G) {d : D} (h : d = .non ∨ d = .bl true ∨ d = .str "0" ∨ d = .tup [.int 0]) : (orcAt G (k+1)).fn "is_whole" [d] s = .ok (.bl false) s := by
  rcases h with rfl | rfl | rfl | rfl <;> exact call_rt T.is_whole rfl rfl rfl rfl rfl
theorem between_exc (T : Tre G) {far : D} (h : Far far) {m : Int} (h0 : 0 ≤ m) (h1 : m < 15) : (orcAt G (k+2)).fn "need_between" [.str "node", far, .int 0, .int m] s = .exc (exN far) s := by
  have no : ∀ {d : D}, (d = .non ∨ d = .bl true ∨ d = .str "0" ∨ d = .tup [.int 0]) → plainD d = true → (orcAt G (k+2)).fn "need_between" [.str "node", d, .int 0, .int m] s = .exc (exN d) s := by
    intro d hd hp
    exact call_exc T.need_between rfl rfl rfl (r_stop (r_ite (q := true) (s1 := s) (tt_not (q := false) (tt_val (r_call rfl (whole_no T hd)) rfl)) (r_rse (r_esc rfl (r_es1 rfl)) (two_frz rfl hp s) T.xN rfl)))
  cases h with
  | non => exact no (.inl rfl) rfl
  | tru => exact no (.inr (.inl rfl)) rfl
  | txt => exact no (.inr (.inr (.inl rfl))) rfl
  | tup => exact no (.inr (.inr (.inr rfl))) rfl
  | neg =>
    exact call_exc T.need_between rfl rfl rfl (r_by (s1 := s) (tt_not (q := true) (tt_val (r_call rfl (whole_ok T (-1))) rfl)) (r_stop (r_ite (q := true) (s1 := s) (tt_or (q := true) (s1 := s) (tt_and (q := true) (s1 := s) rfl (tt_cmp rfl rfl rfl)) rfl) (r_rse (r_esc rfl (r_es1 rfl)) (two_frz rfl rfl s) T.xN rfl))))
  | big =>
    have c2 : cmpD .Gt (.int 15) (.int m) s = .ok true s := by
      show R.ok (decide (m < 15)) s = _
      rw [decide_eq_true (by omega)]
    exact call_exc T.need_between rfl rfl rfl (r_by (s1 := s) (tt_not (q := true) (tt_val (r_call rfl (whole_ok T 15)) rfl)) (r_stop (r_ite (q := true) (s1 := s) (tt_or (q := false) (s1 := s) (tt_and (q := true) (s1 := s) rfl (tt_cmp rfl rfl rfl)) (tt_and (q := true) (s1 := s) rfl (tt_cmp rfl rfl c2))) (r_rse (r_esc rfl (r_es1 rfl)) (two_frz rfl rfl s) T.xN rfl))))
theorem needN_exc (T : Tre G) (hb : b.Ok) {far : D} (h : Far far) : (orcAt G (k+3)).fn "need_node" [b.model, far] s = .exc (exN far) s := by
  have h1 := hb.l1
  have h6 := hb.l6
  have hv : ∀ e : En, e[1]? = some (some far) → evE (cxK G (k+2)) (.v 1) e s = .ok far s := fun e he => by
    show (match e[1]? with | some (some d) => Ev.ret d | _ => Ev.no) s = _
    rw [he]
    rfl
  exact call_exc T.need_node rfl rfl rfl (r_expX (r_call (r_esc rfl (r_esc (hv _ rfl) (r_esc rfl (r_es1 (r_bin (nodes_len _ _ rfl) rfl rfl))))) (between_exc T h (by omega) (by omega))))
theorem workU (C : Chi G) (T : Tre G) {d far : D} (h : Odd d) {w : Str} (hw : w = "children" ∨ w = "path" ∨ w = "beyond") : (orcAt G (k+2)).fn w [d, far] s = .exc exU s := by
  rcases hw with rfl | rfl | rfl
  · exact call_exc C.children rfl rfl rfl (r_expX (r_call rfl (needM_exc T h)))
  · exact call_exc C.path rfl rfl rfl (r_expX (r_call rfl (needM_exc T h)))
  · exact call_exc C.beyond rfl rfl rfl (r_expX (r_call rfl (needM_exc T h)))
theorem workN (C : Chi G) (T : Tre G) (hb : b.Ok) {far : D} (h : Far far) {w : Str} (hw : w = "children" ∨ w = "path" ∨ w = "beyond") : (orcAt G (k+4)).fn w [b.model, far] s = .exc (exN far) s := by
  rcases hw with rfl | rfl | rfl
  · exact call_exc C.children rfl rfl rfl (r_exp (r_call rfl (needM_ok T)) (r_expX (r_call rfl (needN_exc T hb h))))
  · exact call_exc C.path rfl rfl rfl (r_exp (r_call rfl (needM_ok T)) (r_expX (r_call rfl (needN_exc T hb h))))
  · exact call_exc C.beyond rfl rfl rfl (r_exp (r_call rfl (needM_ok T)) (r_expX (r_call rfl (needN_exc T hb h))))
end
end Kin
end
section
set_option linter.all false
set_option maxRecDepth 100000
namespace L_k12
open PySem Ev
def F_is_whole : Fn := { np := 1, nl := 1, body :=
  (.cons (.rtn (.andv (.isi (.v 0) [.ty "int"]) (.notv (.isi (.v 0) [.ty "bool"]))))
  .nil) }
def F_need_between : Fn := { np := 4, nl := 4, body :=
  (.cons (.ite (.not (.val (.call "is_whole" (.cons (.v 1) .nil)))) (.cons (.rse "BadNumber" (.cons (.v 0) (.cons (.v 1) .nil)))
  .nil) .nil)
  (.cons (.ite (.or (.and (.cmp .IsNot (.v 2) (.c .non)) (.cmp .Lt (.v 1) (.v 2))) (.and (.cmp .IsNot (.v 3) (.c .non)) (.cmp .Gt (.v 1) (.v 3)))) (.cons (.rse "BadNumber" (.cons (.v 0) (.cons (.v 1) .nil)))
  .nil) .nil)
  .nil)) }
def F_copied : Fn := { np := 1, nl := 1, body :=
  (.cons (.rtn (.ife (.val (.isi (.v 0) [.ty "list"])) (.bi .tuple (.cons (.v 0) .nil)) (.v 0)))
  .nil) }
def F_model_key : Fn := { np := 1, nl := 1, body :=
  (.cons (.rtn (.tup (.cons (.fld (.v 0) "things") (.cons (.fld (.v 0) "nodes") (.cons (.fld (.v 0) "limits") (.cons (.fld (.v 0) "claims") (.cons (.fld (.v 0) "asks") (.cons (.fld (.v 0) "measures") .nil))))))))
  .nil) }
def F_need_model : Fn := { np := 1, nl := 1, body :=
  (.cons (.ite (.not (.val (.isi (.v 0) [.own "Model"]))) (.cons (.rse "Unlike" (.cons (.c (.str "model")) .nil))
  .nil) .nil)
  .nil) }
def F_need_node : Fn := { np := 2, nl := 2, body :=
  (.cons (.exp (.call "need_between" (.cons (.c (.str "node")) (.cons (.v 1) (.cons (.c (.int 0)) (.cons (.bin .Sub (.bi .len (.cons (.fld (.v 0) "nodes") .nil)) (.c (.int 1))) .nil))))))
  .nil) }
def F_parent_of : Fn := { np := 2, nl := 2, body :=
  (.cons (.rtn (.ix (.ix (.fld (.v 0) "nodes") (.v 1)) (.c (.int 1))))
  .nil) }
def F_children_by : Fn := { np := 2, nl := 3, body :=
  (.cons (.rtn (.bi .tuple (.cons (.comp false [("k", 2)] (.name 2) (.rng (.cons (.bi .len (.cons (.fld (.v 0) "nodes") .nil)) .nil)) (.cons (.cmp .Eq (.call "parent_of" (.cons (.v 0) (.cons (.v 2) .nil))) (.v 1)) .nil) (.v 2)) .nil)))
  .nil) }
def F_children : Fn := { np := 2, nl := 2, body :=
  (.cons (.exp (.call "need_model" (.cons (.v 0) .nil)))
  (.cons (.exp (.call "need_node" (.cons (.v 0) (.cons (.v 1) .nil))))
  (.cons (.rtn (.call "children_by" (.cons (.v 0) (.cons (.v 1) .nil))))
  .nil))) }
def F_inner_by : Fn := { np := 1, nl := 3, body :=
  (.cons (.asg (.name 1) (.comp false [("k", 2)] (.name 2) (.rng (.cons (.bi .len (.cons (.fld (.v 0) "nodes") .nil)) .nil)) .nil (.call "parent_of" (.cons (.v 0) (.cons (.v 2) .nil)))))
  (.cons (.rtn (.bi .tuple (.cons (.comp false [("k", 2)] (.name 2) (.rng (.cons (.bi .len (.cons (.fld (.v 0) "nodes") .nil)) .nil)) (.cons (.cmp .In (.v 2) (.v 1)) .nil) (.v 2)) .nil)))
  .nil)) }
def F_leaves_by : Fn := { np := 1, nl := 3, body :=
  (.cons (.asg (.name 1) (.call "inner_by" (.cons (.v 0) .nil)))
  (.cons (.rtn (.bi .tuple (.cons (.comp false [("k", 2)] (.name 2) (.rng (.cons (.bi .len (.cons (.fld (.v 0) "nodes") .nil)) .nil)) (.cons (.cmp .NotIn (.v 2) (.v 1)) .nil) (.v 2)) .nil)))
  .nil)) }
def F_leaves : Fn := { np := 1, nl := 1, body :=
  (.cons (.exp (.call "need_model" (.cons (.v 0) .nil)))
  (.cons (.rtn (.call "leaves_by" (.cons (.v 0) .nil)))
  .nil)) }
def F_inner_nodes : Fn := { np := 1, nl := 1, body :=
  (.cons (.exp (.call "need_model" (.cons (.v 0) .nil)))
  (.cons (.rtn (.call "inner_by" (.cons (.v 0) .nil)))
  .nil)) }
def F_path_by : Fn := { np := 2, nl := 3, body :=
  (.cons (.asg (.name 2) (.lst true (.cons (.v 1) .nil)))
  (.cons (.whl (.cmp .IsNot (.call "parent_of" (.cons (.v 0) (.cons (.ix (.v 2) (.c (.int 0))) .nil))) (.c .non)) (.cons (.exp (.met (.v 2) .insert (.cons (.c (.int 0)) (.cons (.call "parent_of" (.cons (.v 0) (.cons (.ix (.v 2) (.c (.int 0))) .nil))) .nil))))
  .nil))
  (.cons (.rtn (.bi .tuple (.cons (.v 2) .nil)))
  .nil))) }
def F_path : Fn := { np := 2, nl := 2, body :=
  (.cons (.exp (.call "need_model" (.cons (.v 0) .nil)))
  (.cons (.exp (.call "need_node" (.cons (.v 0) (.cons (.v 1) .nil))))
  (.cons (.rtn (.call "path_by" (.cons (.v 0) (.cons (.v 1) .nil))))
  .nil))) }
def F_beyond : Fn := { np := 2, nl := 3, body :=
  (.cons (.exp (.call "need_model" (.cons (.v 0) .nil)))
  (.cons (.exp (.call "need_node" (.cons (.v 0) (.cons (.v 1) .nil))))
  (.cons (.rtn (.bi .tuple (.cons (.comp false [("k", 2)] (.name 2) (.rng (.cons (.bi .len (.cons (.fld (.v 0) "nodes") .nil)) .nil)) (.cons (.cmp .In (.v 1) (.call "path_by" (.cons (.v 0) (.cons (.v 2) .nil)))) .nil) (.v 2)) .nil)))
  .nil))) }
def F__law_pen : Fn := { np := 1, nl := 3, body :=
  (.cons (.asg (.name 1) (.c (.int 0)))
  (.cons (.for_ (.name 2) (.seq (.v 0)) (.cons (.asg (.name 1) (.bin .Mod (.bi .int (.cons (.bin .Add (.bin .Mult (.v 1) (.c (.int 191))) (.v 2)) .nil)) (.c (.int 999999137))))
  .nil))
  (.cons (.rtn (.dct true [.inr "cells", .inr "at", .inr "digits", .inr "count", .inr "fold"] (.cons (.mkb .list false (.cons (.v 0) .nil)) (.cons (.c (.int 0)) (.cons (.c (.int 0)) (.cons (.c (.int 0)) (.cons (.v 1) .nil)))))))
  .nil))) }
def F__law_draw : Fn := { np := 2, nl := 5, body :=
  (.cons (.asg (.ix (.v 0) (.c (.str "count"))) (.bin .Add (.ix (.v 0) (.c (.str "count"))) (.c (.int 1))))
  (.cons (.ite (.and (.cmp .Eq (.ix (.v 0) (.c (.str "digits"))) (.c (.int 0))) (.cmp .Lt (.ix (.v 0) (.c (.str "at"))) (.bi .len (.cons (.ix (.v 0) (.c (.str "cells"))) .nil)))) (.cons (.asg (.name 2) (.ix (.ix (.v 0) (.c (.str "cells"))) (.ix (.v 0) (.c (.str "at")))))
  (.cons (.asg (.ix (.v 0) (.c (.str "at"))) (.bin .Add (.ix (.v 0) (.c (.str "at"))) (.c (.int 1))))
  (.cons (.ite (.cmp .GtE (.v 2) (.bin .Pow (.c (.int 10)) (.c (.int 18)))) (.cons (.asg (.ix (.v 0) (.c (.str "digits"))) (.bin .Sub (.v 2) (.bin .Pow (.c (.int 10)) (.c (.int 18)))))
  .nil) (.cons (.asg (.ix (.v 0) (.c (.str "fold"))) (.bin .Mod (.bi .int (.cons (.bin .Add (.bin .Mult (.ix (.v 0) (.c (.str "fold"))) (.c (.int 30011))) (.v 2)) .nil)) (.c (.int 2147482921))))
  .nil))
  .nil))) .nil)
  (.cons (.ite (.cmp .Gt (.ix (.v 0) (.c (.str "digits"))) (.c (.int 0))) (.cons (.asg (.name 3) (.bin .Mod (.bi .int (.cons (.ix (.v 0) (.c (.str "digits"))) .nil)) (.v 1)))
  (.cons (.asg (.ix (.v 0) (.c (.str "digits"))) (.bin .FloorDiv (.ix (.v 0) (.c (.str "digits"))) (.v 1)))
  (.cons (.rtn (.v 3))
  .nil))) .nil)
  (.cons (.asg (.name 4) (.bin .Add (.bin .Add (.ix (.v 0) (.c (.str "fold"))) (.bin .Mult (.ix (.v 0) (.c (.str "count"))) (.c (.int 6311)))) (.c (.int 181))))
  (.cons (.rtn (.bin .Mod (.bin .FloorDiv (.bi .int (.cons (.bin .Mod (.bin .Pow (.v 4) (.c (.int 55))) (.c (.int 2305843009213693951))) .nil)) (.c (.int 1024))) (.v 1)))
  .nil))))) }
def F__law_pick : Fn := { np := 2, nl := 2, body :=
  (.cons (.rtn (.ix (.v 1) (.call "_law_draw" (.cons (.v 0) (.cons (.bi .len (.cons (.v 1) .nil)) .nil)))))
  .nil) }
def F__law_shuffled : Fn := { np := 2, nl := 5, body :=
  (.cons (.par [2, 3] (.cons (.mkb .list true (.cons (.v 1) .nil)) (.cons (.lst true .nil) .nil)))
  (.cons (.for_ (.name 4) (.rng (.cons (.bi .len (.cons (.v 1) .nil)) .nil)) (.cons (.exp (.met (.v 3) .append (.cons (.met (.v 2) .pop (.cons (.call "_law_draw" (.cons (.v 0) (.cons (.bi .len (.cons (.v 2) .nil)) .nil))) .nil)) .nil)))
  .nil))
  (.cons (.rtn (.v 3))
  .nil))) }
def F__law_gcd : Fn := { np := 2, nl := 3, body :=
  (.cons (.par [0, 1] (.cons (.bi .abs (.cons (.v 0) .nil)) (.cons (.bi .abs (.cons (.v 1) .nil)) .nil)))
  (.cons (.for_ (.name 2) (.rng (.cons (.bin .Add (.c (.int 4)) (.bin .Mult (.c (.int 2)) (.met (.bi .int (.cons (.v 1) .nil)) .bits .nil))) .nil)) (.cons (.ite (.cmp .Eq (.v 1) (.c (.int 0))) (.cons .brk
  .nil) .nil)
  (.cons (.par [0, 1] (.cons (.v 1) (.cons (.bin .Mod (.bi .int (.cons (.v 0) .nil)) (.v 1)) .nil)))
  .nil)))
  (.cons (.rtn (.v 0))
  .nil))) }
def F__law_q : Fn := { np := 2, nl := 3, body :=
  (.cons (.asg (.name 2) (.call "_law_gcd" (.cons (.v 0) (.cons (.v 1) .nil))))
  (.cons (.asg (.name 2) (.ife (.cmp .Lt (.v 1) (.c (.int 0))) (.neg (.v 2)) (.v 2)))
  (.cons (.rtn (.tup (.cons (.bin .FloorDiv (.v 0) (.v 2)) (.cons (.bin .FloorDiv (.v 1) (.v 2)) .nil))))
  .nil))) }
def F__law_times : Fn := { np := 2, nl := 2, body :=
  (.cons (.rtn (.call "_law_q" (.cons (.bin .Mult (.ix (.v 0) (.c (.int 0))) (.ix (.v 1) (.c (.int 0)))) (.cons (.bin .Mult (.ix (.v 0) (.c (.int 1))) (.ix (.v 1) (.c (.int 1)))) .nil))))
  .nil) }
def F__law_behind : Fn := { np := 2, nl := 4, body :=
  (.cons (.rtn (.comp false [("n", 2), ("node", 3)] (.tup (.cons (.name 2) (.cons (.name 3) .nil))) (.enum (.v 0)) (.cons (.cmp .Eq (.ix (.v 3) (.c (.int 1))) (.v 1)) .nil) (.v 2)))
  .nil) }
def F__law_leaves : Fn := { np := 1, nl := 2, body :=
  (.cons (.rtn (.comp false [("k", 1)] (.name 1) (.rng (.cons (.bi .len (.cons (.v 0) .nil)) .nil)) (.cons (.cmp .Eq (.call "_law_behind" (.cons (.v 0) (.cons (.v 1) .nil))) (.lst false .nil)) .nil) (.v 1)))
  .nil) }
def F__law_way : Fn := { np := 2, nl := 4, body :=
  (.cons (.asg (.name 2) (.lst false (.cons (.v 1) .nil)))
  (.cons (.for_ (.name 3) (.rng (.cons (.bi .len (.cons (.v 0) .nil)) .nil)) (.cons (.ite (.cmp .IsNot (.ix (.ix (.v 0) (.ix (.v 2) (.c (.int 0)))) (.c (.int 1))) (.c .non)) (.cons (.asg (.name 2) (.bin .Add (.lst false (.cons (.ix (.ix (.v 0) (.ix (.v 2) (.c (.int 0)))) (.c (.int 1))) .nil)) (.v 2)))
  .nil) .nil)
  .nil))
  (.cons (.rtn (.v 2))
  .nil))) }
def F__law_price : Fn := { np := 1, nl := 1, body :=
  (.cons (.rtn (.tup (.cons (.bin .Add (.c (.int 1)) (.call "_law_draw" (.cons (.v 0) (.cons (.c (.int 12)) .nil)))) (.cons (.call "_law_pick" (.cons (.v 0) (.cons (.lst false (.cons (.c (.int 1)) (.cons (.c (.int 1)) (.cons (.c (.int 1)) (.cons (.c (.int 2)) .nil))))) .nil))) .nil))))
  .nil) }
def F__law_bids : Fn := { np := 3, nl := 4, body :=
  (.cons (.ite (.or (.not (.val (.v 2))) (.cmp .Eq (.call "_law_draw" (.cons (.v 0) (.cons (.c (.int 2)) .nil))) (.c (.int 0)))) (.cons (.rtn (.v 1))
  .nil) .nil)
  (.cons (.rtn (.bi .tuple (.cons (.comp false [("item", 3)] (.name 3) (.seq (.v 1)) .nil (.call "_law_times" (.cons (.v 3) (.cons (.call "_law_pick" (.cons (.v 0) (.cons (.lst false (.cons (.tup (.cons (.c (.int 1)) (.cons (.c (.int 1)) .nil))) (.cons (.tup (.cons (.c (.int 9)) (.cons (.c (.int 10)) .nil))) (.cons (.tup (.cons (.c (.int 1)) (.cons (.c (.int 2)) .nil))) (.cons (.tup (.cons (.c (.int 3)) (.cons (.c (.int 4)) .nil))) .nil))))) .nil))) .nil)))) .nil)))
  .nil)) }
def F__law_tree : Fn := { np := 4, nl := 10, body :=
  (.cons (.asg (.name 4) (.lst true .nil))
  (.cons (.for_ (.name 5) (.rng (.cons (.bin .Add (.c (.int 1)) (.call "_law_draw" (.cons (.v 0) (.cons (.v 2) .nil)))) .nil)) (.cons (.asg (.name 6) (.bi .tuple (.cons (.comp false [("item", 8)] (.name 8) (.seq (.comp false [("j", 9)] (.name 9) (.rng (.cons (.v 1) .nil)) .nil (.call "_law_price" (.cons (.v 0) .nil)))) .nil (.call "_law_q" (.cons (.ix (.v 8) (.c (.int 0))) (.cons (.ix (.v 8) (.c (.int 1))) .nil)))) .nil)))
  (.cons (.asg (.name 7) (.ife (.cmp .Eq (.v 5) (.c (.int 0))) (.c .non) (.ife (.cmp .Eq (.call "_law_draw" (.cons (.v 0) (.cons (.c (.int 2)) .nil))) (.c (.int 0))) (.call "_law_draw" (.cons (.v 0) (.cons (.v 5) .nil))) (.bi .max (.cons (.c (.int 0)) (.cons (.bin .FloorDiv (.bin .Sub (.v 5) (.c (.int 1))) (.c (.int 2))) .nil))))))
  (.cons (.exp (.met (.v 4) .append (.cons (.tup (.cons (.bin .Add (.c (.str "n")) (.bi .str (.cons (.v 5) .nil))) (.cons (.v 7) (.cons (.v 6) (.cons (.call "_law_bids" (.cons (.v 0) (.cons (.v 6) (.cons (.v 3) .nil)))) .nil))))) .nil)))
  .nil))))
  (.cons (.rtn (.v 4))
  .nil))) }
def F__law_moved_tree : Fn := { np := 3, nl := 8, body :=
  (.cons (.asg (.name 3) (.lst true (.cons (.tup (.cons (.c (.str "n0")) (.cons (.c .non) (.cons (.tup (.cons (.tup (.cons (.c (.int 8)) (.cons (.c (.int 1)) .nil))) .nil)) (.cons (.tup (.cons (.tup (.cons (.c (.int 8)) (.cons (.c (.int 1)) .nil))) .nil)) .nil))))) .nil)))
  (.cons (.for_ (.name 4) (.rng (.cons (.v 1) .nil)) (.cons (.ite (.and (.cmp .Eq (.bi .len (.cons (.call "_law_behind" (.cons (.v 3) (.cons (.v 4) .nil))) .nil)) (.c (.int 0))) (.and (.cmp .Lt (.v 4) (.bi .len (.cons (.v 3) .nil))) (.cmp .LtE (.bin .Add (.bi .len (.cons (.v 3) .nil)) (.c (.int 2))) (.bin .Add (.bin .Mult (.c (.int 2)) (.v 1)) (.c (.int 1)))))) (.cons (.asg (.name 5) (.ix (.ix (.ix (.v 3) (.v 4)) (.c (.int 2))) (.c (.int 0))))
  (.cons (.for_ (.name 6) (.seq (.call "_law_pick" (.cons (.v 0) (.cons (.lst false (.cons (.lst false (.cons (.tup (.cons (.c (.int 3)) (.cons (.c (.int 2)) .nil))) (.cons (.tup (.cons (.c (.int 1)) (.cons (.c (.int 2)) .nil))) .nil))) (.cons (.lst false (.cons (.tup (.cons (.c (.int 5)) (.cons (.c (.int 4)) .nil))) (.cons (.tup (.cons (.c (.int 3)) (.cons (.c (.int 4)) .nil))) .nil))) (.cons (.lst false (.cons (.tup (.cons (.c (.int 2)) (.cons (.c (.int 1)) .nil))) (.cons (.tup (.cons (.c (.int 1)) (.cons (.c (.int 1)) .nil))) (.cons (.tup (.cons (.c (.int 1)) (.cons (.c (.int 2)) .nil))) .nil)))) (.cons (.lst false (.cons (.tup (.cons (.c (.int 4)) (.cons (.c (.int 3)) .nil))) (.cons (.tup (.cons (.c (.int 2)) (.cons (.c (.int 3)) .nil))) .nil))) .nil))))) .nil)))) (.cons (.asg (.name 7) (.tup (.cons (.call "_law_times" (.cons (.v 5) (.cons (.v 6) .nil))) .nil)))
  (.cons (.exp (.met (.v 3) .append (.cons (.tup (.cons (.bin .Add (.c (.str "n")) (.bi .str (.cons (.bi .len (.cons (.v 3) .nil)) .nil))) (.cons (.v 4) (.cons (.v 7) (.cons (.call "_law_bids" (.cons (.v 0) (.cons (.v 7) (.cons (.v 2) .nil)))) .nil))))) .nil)))
  .nil)))
  .nil)) .nil)
  .nil))
  (.cons (.rtn (.v 3))
  .nil))) }
def F__law_limits : Fn := { np := 3, nl := 6, body :=
  (.cons (.asg (.name 3) (.lst true .nil))
  (.cons (.for_ (.name 4) (.rng (.cons (.v 1) .nil)) (.cons (.asg (.name 5) (.ife (.val (.v 2)) (.call "_law_pick" (.cons (.v 0) (.cons (.lst false (.cons (.c .non) (.cons (.c .non) (.cons (.tup (.cons (.c (.int 0)) (.cons (.c (.int 1)) .nil))) (.cons (.tup (.cons (.neg (.c (.int 1))) (.cons (.c (.int 1)) .nil))) (.cons (.tup (.cons (.neg (.c (.int 2))) (.cons (.c (.int 1)) .nil))) .nil)))))) .nil))) (.c .non)))
  (.cons (.exp (.met (.v 3) .append (.cons (.tup (.cons (.v 5) (.cons (.ife (.val (.v 2)) (.call "_law_pick" (.cons (.v 0) (.cons (.lst false (.cons (.c .non) (.cons (.c .non) (.cons (.tup (.cons (.c (.int 1)) (.cons (.c (.int 1)) .nil))) (.cons (.tup (.cons (.c (.int 3)) (.cons (.c (.int 2)) .nil))) (.cons (.tup (.cons (.c (.int 0)) (.cons (.c (.int 1)) .nil))) .nil)))))) .nil))) (.c .non)) .nil))) .nil)))
  .nil)))
  (.cons (.rtn (.v 3))
  .nil))) }
def F__law_claim : Fn := { np := 4, nl := 7, body :=
  (.cons (.ite (.cmp .Eq (.v 2) (.c (.str "pays"))) (.cons (.asg (.name 4) (.call "_law_leaves" (.cons (.v 3) .nil)))
  (.cons (.rtn (.tup (.cons (.v 1) (.cons (.v 2) (.cons (.bi .tuple (.cons (.comp false [("k", 6)] (.name 6) (.rng (.cons (.bi .len (.cons (.v 3) .nil)) .nil)) .nil (.ife (.or (.cmp .In (.v 6) (.v 4)) (.cmp .Eq (.call "_law_draw" (.cons (.v 0) (.cons (.c (.int 4)) .nil))) (.c (.int 0)))) (.tup (.cons (.bin .Sub (.call "_law_draw" (.cons (.v 0) (.cons (.c (.int 6)) .nil))) (.c (.int 1))) (.cons (.c (.int 1)) .nil))) (.tup (.cons (.c (.int 0)) (.cons (.c (.int 1)) .nil))))) .nil)) .nil)))))
  .nil)) .nil)
  (.cons (.asg (.name 5) (.mkb .sorted false (.cons (.sl false (.call "_law_shuffled" (.cons (.v 0) (.cons (.lrg false (.cons (.bi .len (.cons (.v 3) .nil)) .nil)) .nil))) .nil (.cons (.bin .Add (.c (.int 1)) (.call "_law_draw" (.cons (.v 0) (.cons (.c (.int 4)) .nil)))) .nil)) .nil)))
  (.cons (.rtn (.tup (.cons (.v 1) (.cons (.v 2) (.cons (.bi .tuple (.cons (.comp false [("k", 6)] (.name 6) (.seq (.v 5)) .nil (.tup (.cons (.v 6) (.cons (.call "_law_q" (.cons (.bin .Sub (.call "_law_draw" (.cons (.v 0) (.cons (.c (.int 8)) .nil))) (.c (.int 1))) (.cons (.call "_law_pick" (.cons (.v 0) (.cons (.lst false (.cons (.c (.int 1)) (.cons (.c (.int 1)) (.cons (.c (.int 2)) .nil)))) .nil))) .nil))) .nil)))) .nil)) .nil)))))
  .nil))) }
def F__law_some_asks : Fn := { np := 3, nl := 9, body :=
  (.cons (.asg (.name 3) (.lst true .nil))
  (.cons (.for_ (.name 4) (.rng (.cons (.bin .Add (.c (.int 1)) (.call "_law_draw" (.cons (.v 0) (.cons (.v 2) .nil)))) .nil)) (.cons (.asg (.name 5) (.call "_law_pick" (.cons (.v 0) (.cons (.lst false (.cons (.c (.str "gains")) (.cons (.c (.str "whole")) (.cons (.c (.str "cost")) (.cons (.c (.str "cost")) (.cons (.c (.str "worth")) (.cons (.c (.str "copies")) (.cons (.c (.str "early")) (.cons (.c (.str "takes")) .nil))))))))) .nil))))
  (.cons (.asg (.name 6) (.comp false [("k", 7), ("claim", 8)] (.tup (.cons (.name 7) (.cons (.name 8) .nil))) (.enum (.ix (.v 1) (.c (.str "claims")))) (.cons (.cmp .Eq (.cmp .Eq (.ix (.v 8) (.c (.int 1))) (.c (.str "may"))) (.cmp .In (.v 5) (.tup (.cons (.c (.str "early")) (.cons (.c (.str "takes")) .nil))))) .nil) (.v 7)))
  (.cons (.ite (.or (.cmp .In (.v 5) (.tup (.cons (.c (.str "gains")) (.cons (.c (.str "whole")) .nil)))) (.cmp .Eq (.v 6) (.lst false .nil))) (.cons (.exp (.met (.v 3) .append (.cons (.tup (.cons (.call "_law_pick" (.cons (.v 0) (.cons (.lst false (.cons (.c (.str "gains")) (.cons (.c (.str "whole")) .nil))) .nil))) .nil)) .nil)))
  .nil) (.cons (.exp (.met (.v 3) .append (.cons (.tup (.cons (.v 5) (.cons (.call "_law_pick" (.cons (.v 0) (.cons (.v 6) .nil))) .nil))) .nil)))
  .nil))
  .nil))))
  (.cons (.rtn (.v 3))
  .nil))) }
def F__law_book : Fn := { np := 4, nl := 8, body :=
  (.cons (.ite (.cmp .Gt (.call "_law_draw" (.cons (.v 0) (.cons (.c (.int 3)) .nil))) (.c (.int 0))) (.cons (.par [4, 5] (.cons (.call "_law_moved_tree" (.cons (.v 0) (.cons (.bin .Add (.c (.int 1)) (.call "_law_draw" (.cons (.v 0) (.cons (.c (.int 2)) .nil)))) (.cons (.v 1) .nil)))) (.cons (.tup (.cons (.c (.str "s")) .nil)) .nil)))
  .nil) (.cons (.asg (.name 5) (.call "_law_pick" (.cons (.v 0) (.cons (.lst false (.cons (.tup (.cons (.c (.str "s")) .nil)) (.cons (.tup (.cons (.c (.str "s")) (.cons (.c (.str "t")) .nil))) .nil))) .nil))))
  (.cons (.asg (.name 4) (.call "_law_tree" (.cons (.v 0) (.cons (.bi .len (.cons (.v 5) .nil)) (.cons (.c (.int 5)) (.cons (.v 1) .nil))))))
  .nil)))
  (.cons (.asg (.name 6) (.lst true (.cons (.call "_law_claim" (.cons (.v 0) (.cons (.c (.str "c0")) (.cons (.c (.str "pays")) (.cons (.v 4) .nil))))) (.cons (.call "_law_claim" (.cons (.v 0) (.cons (.c (.str "e0")) (.cons (.c (.str "may")) (.cons (.v 4) .nil))))) .nil))))
  (.cons (.ite (.cmp .Eq (.call "_law_draw" (.cons (.v 0) (.cons (.c (.int 2)) .nil))) (.c (.int 0))) (.cons (.exp (.met (.v 6) .append (.cons (.call "_law_claim" (.cons (.v 0) (.cons (.c (.str "c1")) (.cons (.c (.str "pays")) (.cons (.v 4) .nil))))) .nil)))
  .nil) .nil)
  (.cons (.asg (.name 7) (.dct true [.inr "things", .inr "nodes", .inr "limits", .inr "claims", .inr "asks"] (.cons (.v 5) (.cons (.v 4) (.cons (.call "_law_limits" (.cons (.v 0) (.cons (.bi .len (.cons (.v 5) .nil)) (.cons (.v 2) .nil)))) (.cons (.v 6) (.cons (.lst false .nil) .nil)))))))
  (.cons (.asg (.ix (.v 7) (.c (.str "asks"))) (.call "_law_some_asks" (.cons (.v 0) (.cons (.v 7) (.cons (.v 3) .nil)))))
  (.cons (.rtn (.v 7))
  .nil)))))) }
def F__law_table_fault : Fn := { np := 1, nl := 2, body :=
  (.cons (.try_ 1 (.cons (.exp (.cal 0 .nil))
  (.cons (.rtn (.c .non))
  .nil)) (.cons "BadNumber" (.tup (.cons (.c (.str "number")) (.cons (.xf "what") (.cons (.xf "number") .nil)))) (.cons "BadRow" (.tup (.cons (.c (.str "row")) (.cons (.xf "row") .nil))) (.cons "BadTable" (.tup (.cons (.c (.str "table")) (.cons (.xf "table") .nil))) (.cons "Unlike" (.tup (.cons (.c (.str "unlike")) (.cons (.xf "what") .nil))) .nil)))))
  .nil) }
def F__law_tables_due : Fn := { np := 1, nl := 3, body :=
  (.cons (.rtn (.bi .all (.cons (.comp false [("action", 1), ("due", 2)] (.tup (.cons (.name 1) (.cons (.name 2) .nil))) (.seq (.v 0)) .nil (.cmp .Eq (.bi .repr (.cons (.call "_law_table_fault" (.cons (.v 1) .nil)) .nil)) (.bi .repr (.cons (.v 2) .nil)))) .nil)))
  .nil) }
def F__law_built : Fn := { np := 1, nl := 1, body :=
  (.cons (.rtn (.mk "Model" (.cons (.bi .tuple (.cons (.ix (.v 0) (.c (.str "things"))) .nil)) (.cons (.bi .tuple (.cons (.ix (.v 0) (.c (.str "nodes"))) .nil)) (.cons (.bi .tuple (.cons (.ix (.v 0) (.c (.str "limits"))) .nil)) (.cons (.bi .tuple (.cons (.ix (.v 0) (.c (.str "claims"))) .nil)) (.cons (.bi .tuple (.cons (.ix (.v 0) (.c (.str "asks"))) .nil)) .nil)))))))
  .nil) }
def F__law_with : Fn := { np := 3, nl := 4, body :=
  (.cons (.asg (.name 3) (.mkb .dict true (.cons (.v 0) .nil)))
  (.cons (.asg (.ix (.v 3) (.v 1)) (.v 2))
  (.cons (.rtn (.v 3))
  .nil))) }
def F__law_flat : Fn := { np := 1, nl := 3, body :=
  (.cons (.asg (.name 1) (.tup .nil))
  (.cons (.for_ (.name 2) (.seq (.v 0)) (.cons (.asg (.name 1) (.bin .Add (.v 1) (.bi .tuple (.cons (.v 2) .nil))))
  .nil))
  (.cons (.rtn (.v 1))
  .nil))) }
def F__law_root_alone : Fn := { np := 2, nl := 6, body :=
  (.cons (.ite (.cmp .Gt (.call "_law_draw" (.cons (.v 0) (.cons (.c (.int 12)) .nil))) (.c (.int 0))) (.cons (.rtn (.v 1))
  .nil) .nil)
  (.cons (.asg (.name 2) (.comp false [("name", 3), ("word", 4), ("rows", 5)] (.tup (.cons (.name 3) (.cons (.name 4) (.cons (.name 5) .nil)))) (.seq (.ix (.v 1) (.c (.str "claims")))) .nil (.tup (.cons (.v 3) (.cons (.v 4) (.cons (.ife (.cmp .Eq (.v 4) (.c (.str "pays"))) (.sl false (.v 5) .nil (.cons (.c (.int 1)) .nil)) (.tup (.cons (.tup (.cons (.c (.int 0)) (.cons (.ix (.ix (.v 5) (.c (.int 0))) (.c (.int 1))) .nil))) .nil))) .nil))))))
  (.cons (.rtn (.call "_law_with" (.cons (.call "_law_with" (.cons (.v 1) (.cons (.c (.str "nodes")) (.cons (.sl false (.ix (.v 1) (.c (.str "nodes"))) .nil (.cons (.c (.int 1)) .nil)) .nil)))) (.cons (.c (.str "claims")) (.cons (.v 2) .nil)))))
  .nil))) }
def F__law_market : Fn := { np := 3, nl := 3, body :=
  (.cons (.rtn (.call "_law_root_alone" (.cons (.v 0) (.cons (.call "_law_book" (.cons (.v 0) (.cons (.v 1) (.cons (.v 2) (.cons (.c (.int 3)) .nil))))) .nil))))
  .nil) }
def F_law : Fn := { np := 1, nl := 15, body :=
  (.cons (.asg (.name 1) (.call "_law_pen" (.cons (.v 0) .nil)))
  (.cons (.for_ (.name 2) (.rng (.cons (.c (.int 3)) .nil)) (.cons (.asg (.name 3) (.call "_law_market" (.cons (.v 1) (.cons (.c (.bl true)) (.cons (.c (.bl true)) .nil)))))
  (.cons (.asg (.tup (.cons (.name 4) (.cons (.name 5) .nil))) (.tup (.cons (.call "_law_built" (.cons (.v 3) .nil)) (.cons (.ix (.v 3) (.c (.str "nodes"))) .nil))))
  (.cons (.asg (.name 6) (.call "_law_leaves" (.cons (.v 5) .nil)))
  (.cons (.ite (.or (.cmp .NotEq (.bi .repr (.cons (.call "leaves" (.cons (.v 4) .nil)) .nil)) (.bi .repr (.cons (.bi .tuple (.cons (.v 6) .nil)) .nil))) (.cmp .NotEq (.bi .repr (.cons (.call "inner_nodes" (.cons (.v 4) .nil)) .nil)) (.bi .repr (.cons (.bi .tuple (.cons (.comp false [("k", 7)] (.name 7) (.rng (.cons (.bi .len (.cons (.v 5) .nil)) .nil)) (.cons (.cmp .NotIn (.v 7) (.v 6)) .nil) (.v 7)) .nil)) .nil)))) (.cons (.rtn (.c (.bl false)))
  .nil) .nil)
  (.cons (.for_ (.name 7) (.rng (.cons (.bi .len (.cons (.v 5) .nil)) .nil)) (.cons (.asg (.name 8) (.call "_law_way" (.cons (.v 5) (.cons (.v 7) .nil))))
  (.cons (.ite (.or (.cmp .NotEq (.bi .repr (.cons (.call "children" (.cons (.v 4) (.cons (.v 7) .nil))) .nil)) (.bi .repr (.cons (.bi .tuple (.cons (.call "_law_behind" (.cons (.v 5) (.cons (.v 7) .nil))) .nil)) .nil))) (.cmp .NotEq (.bi .repr (.cons (.call "path" (.cons (.v 4) (.cons (.v 7) .nil))) .nil)) (.bi .repr (.cons (.bi .tuple (.cons (.v 8) .nil)) .nil)))) (.cons (.rtn (.c (.bl false)))
  .nil) .nil)
  (.cons (.asg (.name 9) (.bi .tuple (.cons (.comp false [("n", 10)] (.name 10) (.rng (.cons (.bi .len (.cons (.v 5) .nil)) .nil)) (.cons (.cmp .In (.v 7) (.call "_law_way" (.cons (.v 5) (.cons (.v 10) .nil)))) .nil) (.v 10)) .nil)))
  (.cons (.ite (.or (.cmp .NotEq (.bi .repr (.cons (.call "beyond" (.cons (.v 4) (.cons (.v 7) .nil))) .nil)) (.bi .repr (.cons (.v 9) .nil))) (.or (.cmp .NotEq (.ix (.v 9) (.c (.int 0))) (.v 7)) (.cmp .NotEq (.cmp .Eq (.bi .len (.cons (.v 9) .nil)) (.c (.int 1))) (.cmp .In (.v 7) (.v 6))))) (.cons (.rtn (.c (.bl false)))
  .nil) .nil)
  (.cons (.ite (.cmp .NotEq (.comp false [("n", 10)] (.name 10) (.rng (.cons (.bi .len (.cons (.v 5) .nil)) .nil)) (.cons (.cmp .In (.v 7) (.call "beyond" (.cons (.v 4) (.cons (.v 10) .nil)))) .nil) (.v 10)) (.mkb .sorted false (.cons (.v 8) .nil))) (.cons (.rtn (.c (.bl false)))
  .nil) .nil)
  (.cons (.for_ (.name 10) (.seq (.call "children" (.cons (.v 4) (.cons (.v 7) .nil)))) (.cons (.ite (.cmp .NotEq (.call "path" (.cons (.v 4) (.cons (.v 10) .nil))) (.bin .Add (.call "path" (.cons (.v 4) (.cons (.v 7) .nil))) (.tup (.cons (.v 10) .nil)))) (.cons (.rtn (.c (.bl false)))
  .nil) .nil)
  .nil))
  .nil)))))))
  (.cons (.asg (.name 11) (.mkb .sorted false (.cons (.bin .Add (.lst false (.cons (.c (.int 0)) .nil)) (.mkb .list false (.cons (.call "_law_flat" (.cons (.comp false [("k", 7)] (.name 7) (.seq (.call "inner_nodes" (.cons (.v 4) .nil))) .nil (.call "children" (.cons (.v 4) (.cons (.v 7) .nil)))) .nil)) .nil))) .nil)))
  (.cons (.ite (.cmp .NotEq (.v 11) (.lrg false (.cons (.bi .len (.cons (.v 5) .nil)) .nil))) (.cons (.rtn (.c (.bl false)))
  .nil) .nil)
  .nil))))))))
  (.cons (.asg (.tup (.cons (.name 12) (.cons (.name 9) .nil))) (.tup (.cons (.call "_law_pick" (.cons (.v 1) (.cons (.lst false (.cons (.c .non) (.cons (.c (.int 5)) (.cons (.v 3) .nil)))) .nil))) (.cons (.call "_law_pick" (.cons (.v 1) (.cons (.lst false (.cons (.neg (.c (.int 1))) (.cons (.c (.int 15)) (.cons (.c .non) (.cons (.c (.bl true)) (.cons (.c (.str "0")) (.cons (.tup (.cons (.c (.int 0)) .nil)) .nil))))))) .nil))) .nil))))
  (.cons (.for_ (.name 13) (.seq (.tup (.cons (.g "children") (.cons (.g "path") (.cons (.g "beyond") .nil))))) (.cons (.lamN 14 3 (.tup (.cons (.c (.str "unlike")) (.cons (.c (.str "model")) .nil))))
  (.cons (.lamA 14 2 (.tup (.cons (.c (.str "number")) (.cons (.c (.str "node")) (.cons (.v 9) .nil)))))
  (.cons (.ite (.not (.val (.callC "_law_tables_due" (.cons (.v 14) .nil) [13, 12, 9, 4]))) (.cons (.rtn (.c (.bl false)))
  .nil) .nil)
  .nil))))
  (.cons (.lamN 14 1 (.tup (.cons (.c (.str "unlike")) (.cons (.c (.str "model")) .nil))))
  (.cons (.lamA 14 0 (.tup (.cons (.c (.str "unlike")) (.cons (.c (.str "model")) .nil))))
  (.cons (.rtn (.callC "_law_tables_due" (.cons (.v 14) .nil) [13, 12, 9, 4]))
  .nil))))))) }
def C_Model : Cl := { np := 6, dfl := [.tup []], fs := ["things", "nodes", "limits", "claims", "asks", "measures"], es := (.cons (.call "copied" (.cons (.v 1) .nil)) (.cons (.call "copied" (.cons (.v 2) .nil)) (.cons (.call "copied" (.cons (.v 3) .nil)) (.cons (.call "copied" (.cons (.v 4) .nil)) (.cons (.call "copied" (.cons (.v 5) .nil)) (.cons (.call "copied" (.cons (.v 6) .nil)) .nil)))))) }
def names0 : List Str := "is_whole" :: "need_between" :: "copied" :: "model_key" :: "need_model" :: "need_node" :: "parent_of" :: "children_by" :: "children" :: "inner_by" :: "leaves_by" :: "leaves" :: "inner_nodes" :: "path_by" :: "path" :: "beyond" :: "_law_pen" :: "_law_draw" :: "_law_pick" :: "_law_shuffled" :: "_law_gcd" :: "_law_q" :: "_law_times" :: "_law_behind" :: "_law_leaves" :: "_law_way" :: "_law_price" :: "_law_bids" :: "_law_tree" :: "_law_moved_tree" :: "_law_limits" :: "_law_claim" :: "_law_some_asks" :: "_law_book" :: "_law_table_fault" :: "_law_tables_due" :: "_law_built" :: "_law_with" :: "_law_flat" :: "_law_root_alone" :: "_law_market" :: []
def gl : Gl where
  con := fun x => if names0.any (fun n => decide (n = x)) then some (.fn x) else (([] : List (Str × List Int)).lookup x).map fun is => .tup (is.map .int)
  isa := fun c t => if ((["Model"] : List Str).any fun n => decide (n = c)) && ((["Model"] : List Str).any fun n => decide (n = t)) then some (decide (c = t)) else none
  cls := fun c => ([("Model", C_Model)] : List (Str × Cl)).lookup c
  exs := fun c => ([("BadNumber", ["what", "number"]), ("BadRow", ["row"]), ("BadTable", ["table"]), ("Unlike", ["what"])] : List (Str × List Str)).lookup c
  fn := fun f => (("is_whole", F_is_whole) :: ("need_between", F_need_between) :: ("copied", F_copied) :: ("model_key", F_model_key) :: ("need_model", F_need_model) :: ("need_node", F_need_node) :: ("parent_of", F_parent_of) :: ("children_by", F_children_by) :: ("children", F_children) :: ("inner_by", F_inner_by) :: ("leaves_by", F_leaves_by) :: ("leaves", F_leaves) :: ("inner_nodes", F_inner_nodes) :: ("path_by", F_path_by) :: ("path", F_path) :: ("beyond", F_beyond) :: ("_law_pen", F__law_pen) :: ("_law_draw", F__law_draw) :: ("_law_pick", F__law_pick) :: ("_law_shuffled", F__law_shuffled) :: ("_law_gcd", F__law_gcd) :: ("_law_q", F__law_q) :: ("_law_times", F__law_times) :: ("_law_behind", F__law_behind) :: ("_law_leaves", F__law_leaves) :: ("_law_way", F__law_way) :: ("_law_price", F__law_price) :: ("_law_bids", F__law_bids) :: ("_law_tree", F__law_tree) :: ("_law_moved_tree", F__law_moved_tree) :: ("_law_limits", F__law_limits) :: ("_law_claim", F__law_claim) :: ("_law_some_asks", F__law_some_asks) :: ("_law_book", F__law_book) :: ("_law_table_fault", F__law_table_fault) :: ("_law_tables_due", F__law_tables_due) :: ("_law_built", F__law_built) :: ("_law_with", F__law_with) :: ("_law_flat", F__law_flat) :: ("_law_root_alone", F__law_root_alone) :: ("_law_market", F__law_market) :: [] : List (Str × Fn)).lookup f
  lam := fun l => (({ nl := 15, fv := [12], body := (.call "inner_nodes" (.cons (.v 12) .nil)) }) :: ({ nl := 15, fv := [12], body := (.call "leaves" (.cons (.v 12) .nil)) }) :: ({ nl := 15, fv := [13, 4, 9], body := (.cal 13 (.cons (.v 4) (.cons (.v 9) .nil))) }) :: ({ nl := 15, fv := [13, 12, 9], body := (.cal 13 (.cons (.v 12) (.cons (.v 9) .nil))) }) :: [] : List Lam)[l]?
  wf := 1000
theorem f_is_whole : gl.fn "is_whole" = some F_is_whole := by with_unfolding_all rfl
theorem f_need_between : gl.fn "need_between" = some F_need_between := by with_unfolding_all rfl
theorem f_copied : gl.fn "copied" = some F_copied := by with_unfolding_all rfl
theorem f_model_key : gl.fn "model_key" = some F_model_key := by with_unfolding_all rfl
theorem f_need_model : gl.fn "need_model" = some F_need_model := by with_unfolding_all rfl
theorem f_need_node : gl.fn "need_node" = some F_need_node := by with_unfolding_all rfl
theorem f_parent_of : gl.fn "parent_of" = some F_parent_of := by with_unfolding_all rfl
theorem f_children_by : gl.fn "children_by" = some F_children_by := by with_unfolding_all rfl
theorem f_children : gl.fn "children" = some F_children := by with_unfolding_all rfl
theorem f_inner_by : gl.fn "inner_by" = some F_inner_by := by with_unfolding_all rfl
theorem f_leaves_by : gl.fn "leaves_by" = some F_leaves_by := by with_unfolding_all rfl
theorem f_leaves : gl.fn "leaves" = some F_leaves := by with_unfolding_all rfl
theorem f_inner_nodes : gl.fn "inner_nodes" = some F_inner_nodes := by with_unfolding_all rfl
theorem f_path_by : gl.fn "path_by" = some F_path_by := by with_unfolding_all rfl
theorem f_path : gl.fn "path" = some F_path := by with_unfolding_all rfl
theorem f_beyond : gl.fn "beyond" = some F_beyond := by with_unfolding_all rfl
theorem f__law_pen : gl.fn "_law_pen" = some F__law_pen := by with_unfolding_all rfl
theorem f__law_draw : gl.fn "_law_draw" = some F__law_draw := by with_unfolding_all rfl
theorem f__law_pick : gl.fn "_law_pick" = some F__law_pick := by with_unfolding_all rfl
theorem f__law_shuffled : gl.fn "_law_shuffled" = some F__law_shuffled := by with_unfolding_all rfl
theorem f__law_gcd : gl.fn "_law_gcd" = some F__law_gcd := by with_unfolding_all rfl
theorem f__law_q : gl.fn "_law_q" = some F__law_q := by with_unfolding_all rfl
theorem f__law_times : gl.fn "_law_times" = some F__law_times := by with_unfolding_all rfl
theorem f__law_behind : gl.fn "_law_behind" = some F__law_behind := by with_unfolding_all rfl
theorem f__law_leaves : gl.fn "_law_leaves" = some F__law_leaves := by with_unfolding_all rfl
theorem f__law_way : gl.fn "_law_way" = some F__law_way := by with_unfolding_all rfl
theorem f__law_price : gl.fn "_law_price" = some F__law_price := by with_unfolding_all rfl
theorem f__law_bids : gl.fn "_law_bids" = some F__law_bids := by with_unfolding_all rfl
theorem f__law_tree : gl.fn "_law_tree" = some F__law_tree := by with_unfolding_all rfl
theorem f__law_moved_tree : gl.fn "_law_moved_tree" = some F__law_moved_tree := by with_unfolding_all rfl
theorem f__law_limits : gl.fn "_law_limits" = some F__law_limits := by with_unfolding_all rfl
theorem f__law_claim : gl.fn "_law_claim" = some F__law_claim := by with_unfolding_all rfl
theorem f__law_some_asks : gl.fn "_law_some_asks" = some F__law_some_asks := by with_unfolding_all rfl
theorem f__law_book : gl.fn "_law_book" = some F__law_book := by with_unfolding_all rfl
theorem f__law_table_fault : gl.fn "_law_table_fault" = some F__law_table_fault := by with_unfolding_all rfl
theorem f__law_tables_due : gl.fn "_law_tables_due" = some F__law_tables_due := by with_unfolding_all rfl
theorem f__law_built : gl.fn "_law_built" = some F__law_built := by with_unfolding_all rfl
theorem f__law_with : gl.fn "_law_with" = some F__law_with := by with_unfolding_all rfl
theorem f__law_flat : gl.fn "_law_flat" = some F__law_flat := by with_unfolding_all rfl
theorem f__law_root_alone : gl.fn "_law_root_alone" = some F__law_root_alone := by with_unfolding_all rfl
theorem f__law_market : gl.fn "_law_market" = some F__law_market := by with_unfolding_all rfl
theorem cc_Model : gl.cls "Model" = some C_Model := by with_unfolding_all rfl
end L_k12
end
section
set_option linter.all false
set_option maxRecDepth 100000
set_option maxHeartbeats 1000003
namespace Kin
open PySem Ev
/-! ### what the law says of a tree -/
def rngL (ps : List (Option Nat)) : List Nat := List.range ps.length
def chkT (ps : List (Option Nat)) : Bool :=
  decide (leavesP ps = leavesL ps) && decide (innerL ps = (rngL ps).filter fun k => !decide (k ∈ leavesL ps)) &&
  (rngL ps).all (fun k => decide (childL ps k = behindL ps k) && decide ((beyondL ps k)[0]? = some k) && (decide ((beyondL ps k).length = 1) == decide (k ∈ leavesL ps)) &&
    decide (((rngL ps).filter fun n => decide (k ∈ beyondL ps n)) = sortN (wayL ps k)) && (childL ps k).all fun n => decide (wayL ps n = wayL ps k ++ [n])) &&
  decide (sortN (0 :: (innerL ps).flatMap (childL ps)) = rngL ps)
theorem chk_all : allTrees.all chkT = true := by kernel_rfl
end Kin
end
section
set_option linter.all false
set_option maxRecDepth 100000
set_option maxHeartbeats 2000003
namespace L_k12
open PySem Ev Kin
theorem kBase : Kin.Base gl := { _law_draw := f__law_draw, _law_pick := f__law_pick, _law_shuffled := f__law_shuffled, _law_gcd := f__law_gcd, _law_q := f__law_q, _law_times := f__law_times, _law_behind := f__law_behind, _law_leaves := f__law_leaves, _law_price := f__law_price, _law_bids := f__law_bids, _law_tree := f__law_tree, _law_moved_tree := f__law_moved_tree, _law_limits := f__law_limits, _law_claim := f__law_claim, _law_some_asks := f__law_some_asks, _law_book := f__law_book, _law_built := f__law_built, _law_with := f__law_with, _law_root_alone := f__law_root_alone, _law_market := f__law_market, copied := f_copied, c_Model := cc_Model, n_Model := by with_unfolding_all rfl, wf := by with_unfolding_all rfl }
theorem kPenn : Kin.Penn gl := { _law_pen := f__law_pen }
theorem kTab : Kin.Tab gl := { _law_table_fault := f__law_table_fault, _law_tables_due := f__law_tables_due }
theorem kTre : Kin.Tre gl := { is_whole := f_is_whole, need_between := f_need_between, need_model := f_need_model, need_node := f_need_node, parent_of := f_parent_of, inner_by := f_inner_by, leaves_by := f_leaves_by, path_by := f_path_by, isa := by with_unfolding_all rfl, xU := by with_unfolding_all rfl, xN := by with_unfolding_all rfl }
theorem kChi : Kin.Chi gl := { children_by := f_children_by, children := f_children, leaves := f_leaves, inner_nodes := f_inner_nodes, path := f_path, beyond := f_beyond, _law_way := f__law_way, _law_flat := f__law_flat }
theorem kExs : Kin.Exs gl := ⟨by with_unfolding_all rfl, by with_unfolding_all rfl, by with_unfolding_all rfl, by with_unfolding_all rfl⟩
section
variable {k : Nat} {b : Bk} {s : Sto} {sc x2 x3 x6 x7 x8 x9 x10 x11 x12 x13 x14 : Option D}
/-- what the law says of the tree -/
structure Tr (ps : List (Option Nat)) : Prop where
  lv : leavesP ps = leavesL ps
  inn : innerL ps = (List.range ps.length).filter fun k => !decide (k ∈ leavesL ps)
  ch : ∀ k, k < ps.length → childL ps k = behindL ps k
  be : ∀ k, k < ps.length → (beyondL ps k)[0]? = some k
  b1 : ∀ k, k < ps.length → (decide ((beyondL ps k).length = 1) == decide (k ∈ leavesL ps)) = true
  wy : ∀ k, k < ps.length → ((List.range ps.length).filter fun n => decide (k ∈ beyondL ps n)) = sortN (wayL ps k)
  cw : ∀ k, k < ps.length → ∀ n ∈ childL ps k, wayL ps n = wayL ps k ++ [n]
  al : sortN (0 :: (innerL ps).flatMap (childL ps)) = List.range ps.length
theorem tr_of {ps : List (Option Nat)} (h : PsOk ps) : Tr ps := by
  have c := h.chk chk_all
  unfold chkT rngL at c
  simp only [Bool.and_eq_true, decide_eq_true_eq, List.all_eq_true, List.mem_range] at c
  obtain ⟨⟨⟨c1, c2⟩, c3⟩, c4⟩ := c
  exact ⟨c1, c2, fun k hk => (c3 k hk).1.1.1.1, fun k hk => (c3 k hk).1.1.1.2, fun k hk => (c3 k hk).1.1.2, fun k hk => (c3 k hk).1.2, fun k hk n hn => (c3 k hk).2 n hn, c4⟩
def kidB : Ss := .cons (.ite (.cmp .NotEq (.call "path" (.cons (.v 4) (.cons (.v 10) .nil))) (.bin .Add (.call "path" (.cons (.v 4) (.cons (.v 7) .nil))) (.tup (.cons (.v 10) .nil)))) (.cons (.rtn (.c (.bl false))) .nil) .nil) .nil
def nodeB : Ss := .cons (.asg (.name 8) (.call "_law_way" (.cons (.v 5) (.cons (.v 7) .nil))))
  (.cons (.ite (.or (.cmp .NotEq (.bi .repr (.cons (.call "children" (.cons (.v 4) (.cons (.v 7) .nil))) .nil)) (.bi .repr (.cons (.bi .tuple (.cons (.call "_law_behind" (.cons (.v 5) (.cons (.v 7) .nil))) .nil)) .nil))) (.cmp .NotEq (.bi .repr (.cons (.call "path" (.cons (.v 4) (.cons (.v 7) .nil))) .nil)) (.bi .repr (.cons (.bi .tuple (.cons (.v 8) .nil)) .nil)))) (.cons (.rtn (.c (.bl false)))
  .nil) .nil)
  (.cons (.asg (.name 9) (.bi .tuple (.cons (.comp false [("n", 10)] (.name 10) (.rng (.cons (.bi .len (.cons (.v 5) .nil)) .nil)) (.cons (.cmp .In (.v 7) (.call "_law_way" (.cons (.v 5) (.cons (.v 10) .nil)))) .nil) (.v 10)) .nil)))
  (.cons (.ite (.or (.cmp .NotEq (.bi .repr (.cons (.call "beyond" (.cons (.v 4) (.cons (.v 7) .nil))) .nil)) (.bi .repr (.cons (.v 9) .nil))) (.or (.cmp .NotEq (.ix (.v 9) (.c (.int 0))) (.v 7)) (.cmp .NotEq (.cmp .Eq (.bi .len (.cons (.v 9) .nil)) (.c (.int 1))) (.cmp .In (.v 7) (.v 6))))) (.cons (.rtn (.c (.bl false)))
  .nil) .nil)
  (.cons (.ite (.cmp .NotEq (.comp false [("n", 10)] (.name 10) (.rng (.cons (.bi .len (.cons (.v 5) .nil)) .nil)) (.cons (.cmp .In (.v 7) (.call "beyond" (.cons (.v 4) (.cons (.v 10) .nil)))) .nil) (.v 10)) (.mkb .sorted false (.cons (.v 8) .nil))) (.cons (.rtn (.c (.bl false)))
  .nil) .nil)
  (.cons (.for_ (.name 10) (.seq (.call "children" (.cons (.v 4) (.cons (.v 7) .nil)))) kidB)
  .nil)))))
def envN (b : Bk) (sc x2 x3 x6 x7 x8 x9 x10 x11 x12 x13 x14 : Option D) : En := [sc, some (.mu 0), x2, x3, some b.model, some (.lst (b.ns.map Nd.d)), x6, x7, x8, x9, x10, x11, x12, x13, x14]
theorem rng_len5 (X : Cx') (hl : b.ns.length ≤ 1000) : evItQ X (.rng (.cons (.bi .len (.cons (.v 5) .nil)) .nil)) (envN b sc x2 x3 x6 x7 x8 x9 x10 x11 x12 x13 x14) s = .ok (nD (List.range b.ns.length), none) s := by
  show bnd (bnd (evEs X (.cons (.bi .len (.cons (.v 5) .nil)) .nil) (envN b sc x2 x3 x6 x7 x8 x9 x10 x11 x12 x13 x14)) fun xs => opt (rngD xs)) _ s = _
  rw [bnd_bnd, bnd_ok (r_es1 (r_bi (r_es1 rfl) (len_row rfl))), List.length_map, rng_len (by omega)]
  rfl
theorem kids_loop (hb : b.Ok) {i : Nat} (hi : i < b.ns.length) : ∀ (l : List Nat) (y : Option D), (∀ n ∈ l, n < b.ns.length ∧ wayL (PS b.ns) n = wayL (PS b.ns) i ++ [n]) → (wayL (PS b.ns) i).length ≤ 1000 →
    ∃ y', loopF (forT (cxK gl (k+4)) (.name 10) kidB) (nD l) (envN b sc x2 x3 x6 (some (.int (i : Int))) x8 x9 y x11 x12 x13 x14) s = .ok (.nx (envN b sc x2 x3 x6 (some (.int (i : Int))) x8 x9 y' x11 x12 x13 x14)) s
  | [], y, _, _ => ⟨y, rfl⟩
  | n :: l, y, h, hw => by
    obtain ⟨hn, hn2⟩ := h n (List.mem_cons_self ..)
    obtain ⟨y', e⟩ := kids_loop hb hi l (some (.int (n : Int))) (fun m hm => h m (List.mem_cons_of_mem _ hm)) hw
    refine ⟨y', loopF_nx (e' := envN b sc x2 x3 x6 (some (.int (i : Int))) x8 x9 (some (.int (n : Int))) x11 x12 x13 x14) ?_ e⟩
    refine r_by (tt_cmp (x := .tup (nD (wayL (PS b.ns) n))) (y := .tup (nD (wayL (PS b.ns) i ++ [n]))) (s1 := s) (s2 := s) (r_call rfl (pathM kBase kChi kTre hb hn)) (r_bin (x := .tup (nD (wayL (PS b.ns) i))) (y := .tup [.int (n : Int)]) (s1 := s) (s2 := s) (r_call rfl (pathM kBase kChi kTre hb hi)) rfl ?_) ((ne_nt s _ _).trans (by rw [decide_eq_true hn2]; rfl))) rfl
    show opD (if decide ((nD (wayL (PS b.ns) i)).length + 1 ≤ 1000000) then some (D.tup (nD (wayL (PS b.ns) i) ++ [.int (n : Int)])) else none) s = _
    rw [decide_eq_true (by simp [nD]; omega)]
    show R.ok (D.tup (nD (wayL (PS b.ns) i) ++ [.int (n : Int)])) s = _
    unfold nD
    rw [List.map_append]
    rfl
end
end L_k12
end
section
set_option linter.all false
set_option maxRecDepth 100000
set_option maxHeartbeats 2000003
namespace L_k12
open PySem Ev Kin
theorem way_lt {ps : List (Option Nat)} (h : PsOk ps) : ∀ (k : Nat), (∀ x ∈ wayL ps k, x ≤ k) ∧ (wayL ps k).length ≤ k + 1 := by
  intro k
  induction k using Nat.strongRecOn with
  | ind k ih =>
    cases e : parOf ps k with
    | none =>
      rw [way_none e]
      refine ⟨fun x hx => ?_, by simp⟩
      simp only [List.mem_cons, List.not_mem_nil, or_false] at hx
      omega
    | some j =>
      rw [way_some h e]
      have hj := h.par e
      obtain ⟨h1, h2⟩ := ih j hj
      refine ⟨fun x hx => ?_, by rw [List.length_append, List.length_singleton]; omega⟩
      rcases List.mem_append.mp hx with hx | hx
      · have := h1 x hx
        omega
      · simp only [List.mem_cons, List.not_mem_nil, or_false] at hx
        omega
theorem rp_flt {n : Nat} {q : Nat → Bool} (h : n ≤ 6) : ∃ t, reprD (.tup (nD ((List.range n).filter q))) = some t := by
  refine (Shw.nt (l := (List.range n).filter q) ?_ fun x hx => ?_).repr (by omega) (by omega)
  · have := List.length_filter_le q (List.range n)
    simp at this
    omega
  · have := (List.mem_filter.mp hx).1
    simp at this
    omega
theorem rp_way {ps : List (Option Nat)} (h : PsOk ps) {k : Nat} (hk : k < ps.length) : ∃ t, reprD (.tup (nD (wayL ps k))) = some t := by
  have h6 := h.l6
  obtain ⟨h1, h2⟩ := way_lt h k
  exact (Shw.nt (l := wayL ps k) (by omega) fun x hx => by have := h1 x hx; omega).repr (by omega) (by omega)
section
variable {k : Nat} {b : Bk} {s : Sto} {sc x2 x3 x7 x8 x9 x10 x11 x12 x13 x14 : Option D}
theorem node_turn (hb : b.Ok) {i : Nat} (hi : i < b.ns.length) : ∃ y, evSs (cxK gl (k+4)) nodeB (envN b sc x2 x3 (some (.lst (nD (leavesL (PS b.ns))))) (some (.int (i : Int))) x8 x9 x10 x11 x12 x13 x14) s =
    .ok (.nx (envN b sc x2 x3 (some (.lst (nD (leavesL (PS b.ns))))) (some (.int (i : Int))) (some (.lst (nD (wayL (PS b.ns) i)))) (some (.tup (nD (beyondL (PS b.ns) i)))) y x11 x12 x13 x14)) s := by
  have h6 := hb.l6
  have tr := tr_of hb.ps
  have pl := ps_len b.ns
  have hip : i < (PS b.ns).length := by omega
  obtain ⟨y, hk⟩ := kids_loop (k := k) (s := s) (sc := sc) (x2 := x2) (x3 := x3) (x6 := some (.lst (nD (leavesL (PS b.ns))))) (x8 := some (.lst (nD (wayL (PS b.ns) i)))) (x9 := some (.tup (nD (beyondL (PS b.ns) i)))) (x11 := x11) (x12 := x12) (x13 := x13) (x14 := x14) hb hi (childL (PS b.ns) i) x10 (fun n hn => ⟨by
    have := (List.mem_filter.mp hn).1
    simpa [pl] using this, tr.cw i hip n hn⟩) (by have := (way_lt hb.ps i).2; omega)
  refine ⟨y, ?_⟩
  have c1 : childL (PS b.ns) i = behindL (PS b.ns) i := tr.ch i hip
  have rc : ∃ t, reprD (.tup (nD (childL (PS b.ns) i))) = some t := by
    unfold childL
    rw [pl]
    exact rp_flt h6
  have rb : ∃ t, reprD (.tup (nD (beyondL (PS b.ns) i))) = some t := by
    unfold beyondL
    rw [pl]
    exact rp_flt h6
  refine r_set (r_call rfl (way_ok kChi hb hi)) ?_
  refine r_by (tt_or (q := false) (s1 := s) (ne_repr (d := .tup (nD (childL (PS b.ns) i))) (s1 := s) (r_call rfl (childrenM kChi kTre hb hi)) (r_bi (r_es1 (r_call rfl (behind_ok kBase Row.lst (by omega)))) (by rw [c1]; rfl)) (fun _ => rfl) rc) (ne_repr (d := .tup (nD (wayL (PS b.ns) i))) (s1 := s) (r_call rfl (pathM kBase kChi kTre hb hi)) (r_bi (r_es1 rfl) rfl) (fun _ => rfl) (rp_way hb.ps hip))) ?_
  have efar : evE (cxK gl (k+4)) (.comp false [("n", 10)] (.name 10) (.rng (.cons (.bi .len (.cons (.v 5) .nil)) .nil)) (.cons (.cmp .In (.v 7) (.call "_law_way" (.cons (.v 5) (.cons (.v 10) .nil)))) .nil) (.v 10)) (envN b sc x2 x3 (some (.lst (nD (leavesL (PS b.ns))))) (some (.int (i : Int))) (some (.lst (nD (wayL (PS b.ns) i)))) x9 x10 x11 x12 x13 x14) s = .ok (.lst (nD (beyondL (PS b.ns) i))) s := by
    refine r_comp (ys := nD (beyondL (PS b.ns) i)) (rng_len5 _ (by omega)) ?_ (by unfold beyondL; rw [pl]; exact flt_len _ _ (by omega)) rfl rfl
    unfold beyondL
    rw [← filter_map_if, pl]
    refine loopC_pm (fun (j : Nat) => D.int (j : Int)) _ fun j hj => ?_
    exact c_if (q := decide (i ∈ wayL (PS b.ns) j)) rfl (tt_cmp rfl (r_call rfl (way_ok kChi hb (by simpa using hj))) (in_nl s i _)) (fun _ => rfl) fun _ => rfl
  refine r_set (d := .tup (nD (beyondL (PS b.ns) i))) (s1 := s) (r_bi (r_es1 efar) rfl) ?_
  have e0 : (nD (beyondL (PS b.ns) i))[0]? = some (.int (i : Int)) := by
    unfold nD
    rw [List.getElem?_map, tr.be i hip]
    rfl
  refine r_by (s1 := s) (tt_or (q := false) (s1 := s) (ne_repr (d := .tup (nD (beyondL (PS b.ns) i))) (s1 := s) (r_call rfl (beyondM kBase kChi kTre hb hi)) rfl (fun _ => rfl) rb) (tt_or (q := false) (s1 := s) (tt_cmp (x := .int (i : Int)) (y := .int (i : Int)) (s1 := s) (s2 := s) (r_ix (x := .tup (nD (beyondL (PS b.ns) i))) (y := .int ((0 : Nat) : Int)) (s1 := s) (s2 := s) rfl rfl (get_tup e0)) rfl ((ne_int _ _ s).trans (by rw [decide_eq_true rfl]; rfl))) (tt_cmp (x := .bl (decide ((beyondL (PS b.ns) i).length = 1))) (y := .bl (decide (i ∈ leavesL (PS b.ns)))) (s1 := s) (s2 := s) (r_cmp (x := .int (((nD (beyondL (PS b.ns) i)).length : Nat) : Int)) (y := .int 1) (s1 := s) (s2 := s) (r_bi (r_es1 rfl) rfl) rfl ?_) (r_cmp rfl rfl (in_nl s i _)) ?_))) ?_
  · refine (eq_int _ _ s).trans ?_
    have : (nD (beyondL (PS b.ns) i)).length = (beyondL (PS b.ns) i).length := by simp [nD]
    rw [this]
    congr 1
    by_cases h : (beyondL (PS b.ns) i).length = 1
    · rw [decide_eq_true h, decide_eq_true (by omega)]
    · rw [decide_eq_false h, decide_eq_false (by omega)]
  · have hb1 := tr.b1 i hip
    have ne_bl : ∀ (a c : Bool), (a == c) = true → cmpD .NotEq (.bl a) (.bl c) s = .ok false s := by
      intro a c h
      cases a <;> cases c <;> first | (cases h; done) | with_unfolding_all rfl
    exact ne_bl _ _ hb1
  have ebey : evE (cxK gl (k+4)) (.comp false [("n", 10)] (.name 10) (.rng (.cons (.bi .len (.cons (.v 5) .nil)) .nil)) (.cons (.cmp .In (.v 7) (.call "beyond" (.cons (.v 4) (.cons (.v 10) .nil)))) .nil) (.v 10)) (envN b sc x2 x3 (some (.lst (nD (leavesL (PS b.ns))))) (some (.int (i : Int))) (some (.lst (nD (wayL (PS b.ns) i)))) (some (.tup (nD (beyondL (PS b.ns) i)))) x10 x11 x12 x13 x14) s = .ok (.lst (nD (sortN (wayL (PS b.ns) i)))) s := by
    rw [← tr.wy i hip, pl]
    refine r_comp (ys := nD ((List.range b.ns.length).filter fun n => decide (i ∈ beyondL (PS b.ns) n))) (rng_len5 _ (by omega)) ?_ (flt_len _ _ (by omega)) rfl rfl
    rw [← filter_map_if]
    refine loopC_pm (fun (j : Nat) => D.int (j : Int)) _ fun j hj => ?_
    exact c_if (q := decide (i ∈ beyondL (PS b.ns) j)) rfl (tt_cmp rfl (r_call rfl (beyondM kBase kChi kTre hb (by simpa using hj))) (in_nt s i _)) (fun _ => rfl) fun _ => rfl
  refine r_by (tt_cmp ebey (r_mkb (r_es1 rfl) sorted_ok) ((ne_nl s _ _).trans (by rw [decide_eq_true rfl]; rfl))) ?_
  exact r_for (s1 := s) (xs := nD (childL (PS b.ns) i)) (r_seq (r_call rfl (childrenM kChi kTre hb hi)) rfl rfl) hk rfl
end
end L_k12
end
section
set_option linter.all false
set_option maxRecDepth 100000
set_option maxHeartbeats 2000003
namespace L_k12
open PySem Ev Kin
def dropS : Nat → Ss → Ss
  | n + 1, .cons _ r => dropS n r
  | _, r => r
/-- one lap's body -/
def lapB : Ss := match dropS 1 F_law.body with
  | .cons (.for_ _ _ b) _ => b
  | _ => .nil
section
variable {k n : Nat} {b : Bk} {s : Sto} {sc x2 x3 x4 x5 x6 x7 x8 x9 x10 x11 x12 x13 x14 : Option D}
theorem nodes_loop (hb : b.Ok) : ∀ (l : List Nat) (x7 x8 x9 x10 : Option D), (∀ i ∈ l, i < b.ns.length) → ∃ y7 y8 y9 y10, loopF (forT (cxK gl (k+4)) (.name 7) nodeB) (nD l) (envN b sc x2 x3 (some (.lst (nD (leavesL (PS b.ns))))) x7 x8 x9 x10 x11 x12 x13 x14) s = .ok (.nx (envN b sc x2 x3 (some (.lst (nD (leavesL (PS b.ns))))) y7 y8 y9 y10 x11 x12 x13 x14)) s
  | [], x7, x8, x9, x10, _ => ⟨x7, x8, x9, x10, rfl⟩
  | i :: l, x7, x8, x9, x10, h => by
    obtain ⟨y, e⟩ := node_turn (k := k) (s := s) (sc := sc) (x2 := x2) (x3 := x3) (x8 := x8) (x9 := x9) (x10 := x10) (x11 := x11) (x12 := x12) (x13 := x13) (x14 := x14) hb (h i (List.mem_cons_self ..))
    obtain ⟨y7, y8, y9, y10, e2⟩ := nodes_loop hb l (some (.int (i : Int))) (some (.lst (nD (wayL (PS b.ns) i)))) (some (.tup (nD (beyondL (PS b.ns) i)))) y (fun j hj => h j (List.mem_cons_of_mem _ hj))
    exact ⟨y7, y8, y9, y10, loopF_nx e e2⟩
theorem rp_leaves {ps : List (Option Nat)} (h : ps.length ≤ 6) : ∃ t, reprD (.tup (nD (leavesL ps))) = some t := rp_flt h
theorem lap_rest (hb : b.Ok) {jj : Nat} (hS : s[jj]? = some (.dct bK b.ds)) : ∃ y7 y8 y9 y10 y11, evSs (cxK gl (k+4)) (dropS 1 lapB) [sc, some (.mu 0), x2, some (.mu jj), x4, x5, x6, x7, x8, x9, x10, x11, x12, x13, x14] s =
    .ok (.nx (envN b sc x2 (some (.mu jj)) (some (.lst (nD (leavesL (PS b.ns))))) y7 y8 y9 y10 y11 x12 x13 x14)) s := by
  have h6 := hb.l6
  have tr := tr_of hb.ps
  have pl := ps_len b.ns
  obtain ⟨y7, y8, y9, y10, hl⟩ := nodes_loop (k := k) (s := s) (sc := sc) (x2 := x2) (x3 := some (.mu jj)) (x11 := x11) (x12 := x12) (x13 := x13) (x14 := x14) hb (List.range b.ns.length) x7 x8 x9 x10 (fun i hi => by simpa using hi)
  refine ⟨y7, y8, y9, y10, some (.lst (nD (List.range b.ns.length))), ?_⟩
  have egn : evE (cxK gl (k+4)) (.ix (.v 3) (.c (.str "nodes"))) [sc, some (.mu 0), x2, some (.mu jj), x4, x5, x6, x7, x8, x9, x10, x11, x12, x13, x14] s = .ok (.lst (b.ns.map Nd.d)) s := by
    refine r_ix (x := .mu jj) (y := .str "nodes") (s1 := s) (s2 := s) rfl rfl ?_
    show opD (getO (thD (.mu jj) _) _) _ = _
    rw [thD_dct hS]
    with_unfolding_all rfl
  refine r_asg (d := .tup [b.model, .lst (b.ns.map Nd.d)]) (s1 := s) (s2 := s) (e' := envN b sc x2 (some (.mu jj)) x6 x7 x8 x9 x10 x11 x12 x13 x14) (r_tup (s1 := s) (xs := [b.model, .lst (b.ns.map Nd.d)]) (r_esc (r_call rfl (built_ok kBase hb hS)) (r_es1 egn)) rfl) rfl ?_
  refine r_set (r_call rfl (leaves_ok kBase Row.lst (by omega))) ?_
  have einn : evE (cxK gl (k+4)) (.comp false [("k", 7)] (.name 7) (.rng (.cons (.bi .len (.cons (.v 5) .nil)) .nil)) (.cons (.cmp .NotIn (.v 7) (.v 6)) .nil) (.v 7)) (envN b sc x2 (some (.mu jj)) (some (.lst (nD (leavesL (PS b.ns))))) x7 x8 x9 x10 x11 x12 x13 x14) s = .ok (.lst (nD (innerL (PS b.ns)))) s := by
    rw [tr.inn, pl]
    refine r_comp (ys := nD ((List.range b.ns.length).filter fun k => !decide (k ∈ leavesL (PS b.ns)))) (rng_len5 _ (by omega)) ?_ (flt_len _ _ (by omega)) rfl rfl
    rw [← filter_map_if]
    refine loopC_pm (fun (j : Nat) => D.int (j : Int)) _ fun j hj => ?_
    exact c_if (q := !decide (j ∈ leavesL (PS b.ns))) rfl (tt_cmp rfl rfl (notin_nl s j _)) (fun _ => rfl) fun _ => rfl
  have ri : ∃ t, reprD (.tup (nD (innerL (PS b.ns)))) = some t := rp_flt (by omega)
  refine r_by (s1 := s) (tt_or (q := false) (s1 := s) (ne_repr (d := .tup (nD (leavesL (PS b.ns)))) (s1 := s) (r_call rfl (by rw [← tr.lv]; exact leavesM kChi kTre hb)) (r_bi (r_es1 rfl) rfl) (fun _ => rfl) (rp_leaves (by omega))) (ne_repr (d := .tup (nD (innerL (PS b.ns)))) (s1 := s) (r_call rfl (innerM kChi kTre hb)) (r_bi (r_es1 einn) rfl) (fun _ => rfl) ri)) ?_
  refine r_for (s1 := s) (xs := nD (List.range b.ns.length)) ?_ hl ?_
  · show bnd (evEs (cxK gl (k+4)) (.cons (.bi .len (.cons (.v 5) .nil)) .nil) (envN b sc x2 (some (.mu jj)) (some (.lst (nD (leavesL (PS b.ns))))) x7 x8 x9 x10 x11 x12 x13 x14)) (fun xs => opt (rngD xs)) s = _
    rw [bnd_ok (r_es1 (r_bi (r_es1 rfl) (len_row rfl))), List.length_map, rng_len (by omega)]
    rfl
  have efl : evE (cxK gl (k+4)) (.comp false [("k", 7)] (.name 7) (.seq (.call "inner_nodes" (.cons (.v 4) .nil))) .nil (.call "children" (.cons (.v 4) (.cons (.v 7) .nil)))) (envN b sc x2 (some (.mu jj)) (some (.lst (nD (leavesL (PS b.ns))))) y7 y8 y9 y10 x11 x12 x13 x14) s = .ok (.lst (((innerL (PS b.ns)).map (childL (PS b.ns))).map fun l => .tup (nD l))) s := by
    have hil : (innerL (PS b.ns)).length ≤ 1000 := by
      have := List.length_filter_le (fun k => decide (some k ∈ PS b.ns)) (List.range (PS b.ns).length)
      simp at this
      unfold innerL
      omega
    refine r_comp (xs := nD (innerL (PS b.ns))) (h := none) (s1 := s) (ys := ((innerL (PS b.ns)).map (childL (PS b.ns))).map fun l => .tup (nD l)) (s2 := s) ?_ ?_ (by simp; omega) rfl rfl
    · show bnd (evIt (cxK gl (k+4)) (.seq (.call "inner_nodes" (.cons (.v 4) .nil))) _) _ s = _
      rw [bnd_ok (r_seq (r_call rfl (innerM kChi kTre hb)) rfl rfl)]
      rfl
    · have e : ((innerL (PS b.ns)).map (childL (PS b.ns))).map (fun l => D.tup (nD l)) = (innerL (PS b.ns)).filterMap fun i => some (D.tup (nD (childL (PS b.ns) i))) := by
        rw [List.filterMap_eq_map', List.map_map]
        rfl
      rw [e]
      refine loopC_pm (fun (j : Nat) => D.int (j : Int)) _ fun j hj => ?_
      have hj2 : j < b.ns.length := by
        have := (List.mem_filter.mp hj).1
        simpa [pl] using this
      exact c_elt rfl (r_call rfl (childrenM kChi kTre hb hj2)) rfl
  have hflat : ((innerL (PS b.ns)).map (childL (PS b.ns))).flatten = (innerL (PS b.ns)).flatMap (childL (PS b.ns)) := by rw [List.flatMap_def]
  have hfl : ((innerL (PS b.ns)).flatMap (childL (PS b.ns))).length ≤ 1000 := by
    have h1 := congrArg List.length tr.al
    have h2 : ∀ l : List Nat, (sortN l).length = l.length := by
      have ins : ∀ (a : Nat) (l : List Nat), (insN a l).length = l.length + 1 := by
        intro a l
        induction l with
        | nil => rfl
        | cons c l ih =>
          unfold insN
          split
          · rfl
          · rw [List.length_cons, ih]; rfl
      intro l
      induction l with
      | nil => rfl
      | cons a l ih =>
        show (insN a (sortN l)).length = _
        rw [ins, ih]; rfl
    rw [h2] at h1
    simp only [List.length_cons, List.length_range] at h1
    omega
  refine r_set (d := .lst (nD (List.range b.ns.length))) (s1 := s) (r_mkb (s1 := s) (xs := [.lst (nD (0 :: (innerL (PS b.ns)).flatMap (childL (PS b.ns))))]) (r_es1 (r_bin (x := .lst [.int 0]) (y := .lst (nD ((innerL (PS b.ns)).flatMap (childL (PS b.ns))))) (s1 := s) (s2 := s) rfl (r_mkb (s1 := s) (xs := [.tup (nD ((innerL (PS b.ns)).flatMap (childL (PS b.ns))))]) (r_es1 (r_call (r_es1 efl) (by rw [← hflat]; exact flat_ok kChi (by rw [hflat]; omega)))) rfl) ?_)) (sorted_ok.trans (by rw [tr.al, pl]))) ?_
  · show opD (if decide (1 + (nD ((innerL (PS b.ns)).flatMap (childL (PS b.ns)))).length ≤ 1000000) then some (D.lst ([.int 0] ++ nD ((innerL (PS b.ns)).flatMap (childL (PS b.ns))))) else none) s = _
    rw [decide_eq_true (by simp only [nD, List.length_map]; omega)]
    rfl
  refine r_by (s1 := s) (tt_cmp (x := .lst (nD (List.range b.ns.length))) (y := .lst (nD (List.range b.ns.length))) (s1 := s) (s2 := s) rfl ?_ ((ne_nl s _ _).trans (by rw [decide_eq_true rfl]; rfl))) rfl
  show bnd (evEs (cxK gl (k+4)) (.cons (.bi .len (.cons (.v 5) .nil)) .nil) _) (fun xs => optB (rngD xs) fun ys => alloc false (.lst ys)) s = _
  rw [bnd_ok (r_es1 (r_bi (r_es1 rfl) (len_row rfl))), List.length_map, rng_len (by omega)]
  rfl
theorem lap_w {p : PnT} {t : Sto} {Q : Fl → Sto → Prop} (hp : p.Ok n) (hn : n + 600 < 1099511627776) (ht : noEnv t = true)
    (h : ∀ (b : Bk) (p' : PnT) (T : Sto) (jj : Nat) (y6 y7 y8 y9 y10 y11 : Option D), p'.Ok (n + 600) → b.Ok → noEnv T = true → T[jj]? = some (.dct bK b.ds) → Q (.nx (envN b sc x2 (some (.mu (jj + 1))) y6 y7 y8 y9 y10 y11 x12 x13 x14)) (PnT.mo p' :: T)) :
    Wp (evSs (cxK gl 14) lapB [sc, some (.mu 0), x2, x3, x4, x5, x6, x7, x8, x9, x10, x11, x12, x13, x14] (PnT.mo p :: t)) Q := by
  refine w_set <| w_call <| w_rfl rfl <| market_w kBase (k := 7) hp hn ?_
  intro b p1 J j o1 hb hJ hj
  have hj2 : (t ++ J)[t.length + j]? = some (.dct bK b.ds) := by
    rw [List.getElem?_append_right (by omega)]
    simpa using hj
  have hS : (PnT.mo p1 :: (t ++ J))[t.length + 1 + j]? = some (.dct bK b.ds) := by
    rw [show t.length + 1 + j = (t.length + j) + 1 by omega]
    exact hj2
  obtain ⟨y7, y8, y9, y10, y11, e⟩ := lap_rest (k := 10) (s := PnT.mo p1 :: (t ++ J)) (sc := sc) (x2 := x2) (x4 := x4) (x5 := x5) (x6 := x6) (x7 := x7) (x8 := x8) (x9 := x9) (x10 := x10) (x11 := x11) (x12 := x12) (x13 := x13) (x14 := x14) hb hS
  have hq := h b p1 (t ++ J) (t.length + j) (some (.lst (nD (leavesL (PS b.ns))))) y7 y8 y9 y10 y11 o1 hb (by rw [noEnv_app, ht, hJ]; rfl) hj2
  rw [show t.length + j + 1 = t.length + 1 + j by omega] at hq
  exact w_rfl e hq
end
end L_k12
end
section
set_option linter.all false
set_option maxRecDepth 100000
set_option maxHeartbeats 2000003
namespace L_k12
open PySem Ev Kin
def endB : Ss := dropS 2 F_law.body
def farsD : List D := [.int (-1), .int 15, .non, .bl true, .str "0", .tup [.int 0]]
theorem fars_far {d : D} (h : d ∈ farsD) : Far d := by
  simp only [farsD, List.mem_cons, List.not_mem_nil, or_false] at h
  rcases h with rfl | rfl | rfl | rfl | rfl | rfl
  · exact .neg
  · exact .big
  · exact .non
  · exact .tru
  · exact .txt
  · exact .tup
theorem odds_odd {d : D} {ks : List Ky} {xs : List D} (h : d ∈ [D.non, .int 5, .dct ks xs]) : Odd d := by
  simp only [List.mem_cons, List.not_mem_nil, or_false] at h
  rcases h with rfl | rfl | rfl
  · exact .non
  · exact .five
  · exact .dct
theorem lam0 : gl.lam 0 = some { nl := 15, fv := [12], body := (.call "inner_nodes" (.cons (.v 12) .nil)) } := rfl
theorem lam1 : gl.lam 1 = some { nl := 15, fv := [12], body := (.call "leaves" (.cons (.v 12) .nil)) } := rfl
theorem lam2 : gl.lam 2 = some { nl := 15, fv := [13, 4, 9], body := (.cal 13 (.cons (.v 4) (.cons (.v 9) .nil))) } := rfl
theorem lam3 : gl.lam 3 = some { nl := 15, fv := [13, 12, 9], body := (.cal 13 (.cons (.v 12) (.cons (.v 9) .nil))) } := rfl
def unD : D := .tup [.str "unlike", .str "model"]
def nuD (far : D) : D := .tup [.str "number", .str "node", far]
theorem un_rp : ∃ t, reprD unD = some t := ⟨_, by with_unfolding_all rfl⟩
section
variable {b : Bk} {s : Sto} {sc x2 x3 x6 x7 x8 x10 x11 x13 x14 : Option D} {odd far : D}
def works : List D := [.fn "children", .fn "path", .fn "beyond"]
def loopB : Ss := .cons (.lamN 14 3 (.tup (.cons (.c (.str "unlike")) (.cons (.c (.str "model")) .nil))))
  (.cons (.lamA 14 2 (.tup (.cons (.c (.str "number")) (.cons (.c (.str "node")) (.cons (.v 9) .nil)))))
  (.cons (.ite (.not (.val (.callC "_law_tables_due" (.cons (.v 14) .nil) [13, 12, 9, 4]))) (.cons (.rtn (.c (.bl false)))
  .nil) .nil)
  .nil))
theorem three_frz {a c d : D} (ha : plainD a = true) (hc : plainD c = true) (hd : plainD d = true) (s : Sto) : frzDs [a, c, d] s = .ok [a, c, d] s := by
  refine frzs_plain fun x hx => ?_
  simp only [List.mem_cons, List.not_mem_nil, or_false] at hx
  rcases hx with rfl | rfl | rfl <;> assumption
theorem work_turn (hb : b.Ok) (ho : Odd odd) (hf : Far far) (hs : noEnv s = true) {w : Str} (hw : w = "children" ∨ w = "path" ∨ w = "beyond") :
    ∃ y s', evSs (cxK gl 14) loopB (envN b sc x2 x3 x6 x7 x8 (some far) x10 x11 (some odd) (some (.fn w)) x14) s = .ok (.nx (envN b sc x2 x3 x6 x7 x8 (some far) x10 x11 (some odd) (some (.fn w)) y)) s' ∧ noEnv s' = true := by
  have ef : evE (cxK gl 14) (.tup (.cons (.c (.str "number")) (.cons (.c (.str "node")) (.cons (.v 9) .nil)))) (envN b sc x2 x3 x6 x7 x8 (some far) x10 x11 (some odd) (some (.fn w)) (some (.mu s.length))) (s ++ [MO.lst [.tup [.clo 3, unD]]]) = .ok (nuD far) (s ++ [MO.lst [.tup [.clo 3, unD]]]) :=
    r_tup (s1 := s ++ [MO.lst [.tup [.clo 3, unD]]]) (xs := [.str "number", .str "node", far]) rfl (three_frz rfl rfl hf.plain _)
  have ed := due_ok (k := 11) (e := envN b sc x2 x3 x6 x7 x8 (some far) x10 x11 (some odd) (some (.fn w)) (some (.mu s.length))) (vi := 14) (s0 := s) (tries := [(3, unD), (2, nuD far)]) (is := [13, 12, 9, 4]) (ys := [.fn w, odd, far, b.model]) kTab kExs rfl rfl (by
      show (true && (plainD odd && (plainD far && (true && true)))) = true
      rw [ho.plain, hf.plain]
      rfl) hs (by simp) (by simp) (by
      intro p hp
      simp only [List.mem_cons, List.not_mem_nil, or_false] at hp
      rcases hp with rfl | rfl
      · exact ⟨exU, _, lam3, by decide, fun s => workU (k := 9) kChi kTre ho hw, .unl, un_rp⟩
      · exact ⟨exN far, _, lam2, by decide, fun s => workN (k := 7) kChi kTre hb hf hw, .num hf.plain, hf.rp⟩)
  refine ⟨some (.mu s.length), s ++ [MO.fr (.lst ([(3, unD), (2, nuD far)].map tryD))], ?_, by rw [noEnv_app, hs]; rfl⟩
  refine r_lamN (d := unD) (s1 := s) rfl rfl ?_
  refine r_lamA (m := s.length) (d := nuD far) (ys := [.tup [.clo 3, unD]]) rfl ef rfl (by simp) (by simp) ?_
  have es : (s ++ [MO.lst [.tup [.clo 3, unD]]]).set s.length (.lst ([.tup [.clo 3, unD]] ++ [.tup [.clo 2, nuD far]])) = s ++ [MO.lst ([(3, unD), (2, nuD far)].map tryD)] := by
    simp
    exact ⟨rfl, rfl⟩
  rw [es]
  exact r_by (tt_not (q := true) (tt_val ed rfl)) rfl
theorem works_loop (hb : b.Ok) (ho : Odd odd) (hf : Far far) : ∀ (ws : List Str) (s : Sto) (x13 x14 : Option D), noEnv s = true → (∀ w ∈ ws, w = "children" ∨ w = "path" ∨ w = "beyond") → ∃ y13 y14 s', loopF (forT (cxK gl 14) (.name 13) loopB) (ws.map .fn) (envN b sc x2 x3 x6 x7 x8 (some far) x10 x11 (some odd) x13 x14) s = .ok (.nx (envN b sc x2 x3 x6 x7 x8 (some far) x10 x11 (some odd) y13 y14)) s' ∧ noEnv s' = true ∧ (ws ≠ [] → ∃ d, y13 = some d ∧ plainD d = true)
  | [], s, x13, x14, hs, _ => ⟨x13, x14, s, rfl, hs, fun h => absurd rfl h⟩
  | w :: ws, s, x13, x14, hs, h => by
    obtain ⟨y, s1, e1, h1⟩ := work_turn (s := s) (sc := sc) (x2 := x2) (x3 := x3) (x6 := x6) (x7 := x7) (x8 := x8) (x10 := x10) (x11 := x11) (x14 := x14) hb ho hf hs (h w (List.mem_cons_self ..))
    obtain ⟨y13, y14, s', e2, h2, h3⟩ := works_loop hb ho hf ws s1 (some (.fn w)) y h1 (fun v hv => h v (List.mem_cons_of_mem _ hv))
    refine ⟨y13, y14, s', loopF_nx e1 e2, h2, fun _ => ?_⟩
    cases ws with
    | nil =>
      cases e2
      exact ⟨_, rfl, rfl⟩
    | cons v ws => exact h3 (by simp)
theorem end_ok {p : PnT} {n : Nat} {T : Sto} {jj : Nat} {x9 x12 : Option D} (hp : p.Ok n) (hn : n + 10 < 1099511627776) (hb : b.Ok) (hT : noEnv T = true) (hj : T[jj]? = some (.dct bK b.ds)) :
    ∃ s', evSs (cxK gl 14) endB (envN b sc x2 (some (.mu (jj + 1))) x6 x7 x8 x9 x10 x11 x12 x13 x14) (PnT.mo p :: T) = .ok (.rt (.bl true)) s' := by
  have hjl : jj < T.length := (List.getElem?_eq_some_iff.mp hj).1
  have hT2 : noEnv (T.set jj (.fr (.dct bK b.ds))) = true := by
    unfold noEnv at hT ⊢
    rw [List.all_eq_true] at hT ⊢
    intro o ho
    rcases List.mem_or_eq_of_mem_set ho with h | rfl
    · exact hT o h
    · rfl
  have main : Wp (evSs (cxK gl 14) endB (envN b sc x2 (some (.mu (jj + 1))) x6 x7 x8 x9 x10 x11 x12 x13 x14) (PnT.mo p :: T)) (fun fl _ => fl = .rt (.bl true)) := by
    refine w_asg <| w_tup <| w_esc <| w_call <| w_esc <| w_rfl rfl <| w_es1 <| w_lst <| w_rfl (a := [.non, .int 5, .mu (jj + 1)]) (s := PnT.mo p :: T) rfl <| w_rfl (a := [.non, .int 5, .dct bK b.ds]) (s := PnT.mo p :: T.set jj (.fr (.dct bK b.ds))) ?_ <| w_rfl rfl <| pick_w kBase (xs := [.non, .int 5, .dct bK b.ds]) hp (by omega) (by simp) (by simp) rfl ?_
    · exact frzs_cons rfl <| frzs_cons rfl <| frzs_cons (frz_dct (k := jj + 1) (s := PnT.mo p :: T) hj) rfl
    intro odd hodd p2 o2
    have ho := odds_odd hodd
    refine w_es1 <| w_call <| w_rfl rfl <| pick_w kBase (xs := farsD) o2 (by omega) (by decide) (by decide) (by rfl) ?_
    intro far hfar p3 o3
    have hf := fars_far hfar
    have hs0 : noEnv (PnT.mo p3 :: T.set jj (.fr (.dct bK b.ds))) = true := hT2
    obtain ⟨y13, y14, s', e2, h2, h3⟩ := works_loop (sc := sc) (x2 := x2) (x3 := some (.mu (jj + 1))) (x6 := x6) (x7 := x7) (x8 := x8) (x10 := x10) (x11 := x11) hb ho hf ["children", "path", "beyond"] (PnT.mo p3 :: T.set jj (.fr (.dct bK b.ds))) x13 x14 hs0 (by
      intro w hw
      simpa using hw)
    obtain ⟨d13, rfl, hd13⟩ := h3 (by simp)
    refine w_rfl (two_frz ho.plain hf.plain _) <| w_rfl (a := envN b sc x2 (some (.mu (jj + 1))) x6 x7 x8 (some far) x10 x11 (some odd) x13 x14) (s := PnT.mo p3 :: T.set jj (.fr (.dct bK b.ds))) ?_ ?_
    · rfl
    have ed := due_ok (k := 11) (e := envN b sc x2 (some (.mu (jj + 1))) x6 x7 x8 (some far) x10 x11 (some odd) (some d13) (some (.mu s'.length))) (vi := 14) (s0 := s') (tries := [(1, unD), (0, unD)]) (is := [13, 12, 9, 4]) (ys := [d13, odd, far, b.model]) kTab kExs rfl rfl (by
      show (plainD d13 && (plainD odd && (plainD far && (true && true)))) = true
      rw [hd13, ho.plain, hf.plain]
      rfl) h2 (by simp) (by simp) (by
      intro q hq
      simp only [List.mem_cons, List.not_mem_nil, or_false] at hq
      rcases hq with rfl | rfl
      · exact ⟨exU, _, lam1, by decide, fun s => call_exc (k := 10) kChi.leaves rfl rfl rfl (r_expX (r_call rfl (needM_exc (k := 9) kTre ho))), .unl, un_rp⟩
      · exact ⟨exU, _, lam0, by decide, fun s => call_exc (k := 10) kChi.inner_nodes rfl rfl rfl (r_expX (r_call rfl (needM_exc (k := 9) kTre ho))), .unl, un_rp⟩)
    have es : (s' ++ [MO.lst [.tup [.clo 1, unD]]]).set s'.length (.lst ([.tup [.clo 1, unD]] ++ [.tup [.clo 0, unD]])) = s' ++ [MO.lst ([(1, unD), (0, unD)].map tryD)] := by
      simp
      exact ⟨rfl, rfl⟩
    refine w_rfl (a := .rt (.bl true)) (s := s' ++ [MO.fr (.lst ([(1, unD), (0, unD)].map tryD))]) ?_ rfl
    refine r_for (s1 := PnT.mo p3 :: T.set jj (.fr (.dct bK b.ds))) (xs := works) (by with_unfolding_all rfl) e2 ?_
    refine r_lamN (d := unD) (s1 := s') rfl rfl ?_
    refine r_lamA (m := s'.length) (d := unD) (ys := [.tup [.clo 1, unD]]) rfl rfl rfl (by simp) (by simp) ?_
    rw [es]
    exact r_rtn ed
  obtain ⟨fl, s', e, rfl⟩ := main
  exact ⟨s', e⟩
end
end L_k12
end
section
set_option Elab.async false
set_option linter.all false
set_option maxRecDepth 100000
set_option maxHeartbeats 0
namespace L_k12
open PySem PySem.Spec PyProof.Rows L2 Ev
def top (i : Nat) : Stmt := PySem.Challenge.pw_hedgepapers_k12_trees.main.body.getD i (.Pass ⟨0, 0, 0, 0⟩)
def mem (i j : Nat) : Stmt := (C8.clsBody (top i)).getD j (.Pass ⟨0, 0, 0, 0⟩)
def d_is_whole : Dn := { name := "is_whole", N := ["value"], params := defArgs (top 7), body := defBody (top 7), scope := defScope (top 7), F := F_is_whole }
def d_need_between : Dn := { name := "need_between", N := ["what", "number", "low", "high"], params := defArgs (top 8), body := defBody (top 8), scope := defScope (top 8), F := F_need_between }
def d_copied : Dn := { name := "copied", N := ["value"], params := defArgs (top 9), body := defBody (top 9), scope := defScope (top 9), F := F_copied }
def d_model_key : Dn := { name := "model_key", N := ["model"], params := defArgs (top 12), body := defBody (top 12), scope := defScope (top 12), F := F_model_key }
def d_need_model : Dn := { name := "need_model", N := ["model"], params := defArgs (top 13), body := defBody (top 13), scope := defScope (top 13), F := F_need_model }
def d_need_node : Dn := { name := "need_node", N := ["model", "node"], params := defArgs (top 15), body := defBody (top 15), scope := defScope (top 15), F := F_need_node }
def d_parent_of : Dn := { name := "parent_of", N := ["model", "node"], params := defArgs (top 16), body := defBody (top 16), scope := defScope (top 16), F := F_parent_of }
def d_children_by : Dn := { name := "children_by", N := ["model", "node", "k"], params := defArgs (top 17), body := defBody (top 17), scope := defScope (top 17), F := F_children_by }
def d_children : Dn := { name := "children", N := ["model", "node"], params := defArgs (top 18), body := defBody (top 18), scope := defScope (top 18), F := F_children }
def d_inner_by : Dn := { name := "inner_by", N := ["model", "parents", "k"], params := defArgs (top 19), body := defBody (top 19), scope := defScope (top 19), F := F_inner_by }
def d_leaves_by : Dn := { name := "leaves_by", N := ["model", "inner", "k"], params := defArgs (top 20), body := defBody (top 20), scope := defScope (top 20), F := F_leaves_by }
def d_leaves : Dn := { name := "leaves", N := ["model"], params := defArgs (top 21), body := defBody (top 21), scope := defScope (top 21), F := F_leaves }
def d_inner_nodes : Dn := { name := "inner_nodes", N := ["model"], params := defArgs (top 22), body := defBody (top 22), scope := defScope (top 22), F := F_inner_nodes }
def d_path_by : Dn := { name := "path_by", N := ["model", "node", "out"], params := defArgs (top 23), body := defBody (top 23), scope := defScope (top 23), F := F_path_by }
def d_path : Dn := { name := "path", N := ["model", "node"], params := defArgs (top 24), body := defBody (top 24), scope := defScope (top 24), F := F_path }
def d_beyond : Dn := { name := "beyond", N := ["model", "node", "k"], params := defArgs (top 25), body := defBody (top 25), scope := defScope (top 25), F := F_beyond }
def d__law_pen : Dn := { name := "_law_pen", N := ["script", "fold", "cell"], params := defArgs (top 27), body := defBody (top 27), scope := defScope (top 27), F := F__law_pen }
def d__law_draw : Dn := { name := "_law_draw", N := ["pen", "many", "cell", "digit", "blend"], params := defArgs (top 28), body := defBody (top 28), scope := defScope (top 28), F := F__law_draw }
def d__law_pick : Dn := { name := "_law_pick", N := ["pen", "some"], params := defArgs (top 29), body := defBody (top 29), scope := defScope (top 29), F := F__law_pick }
def d__law_shuffled : Dn := { name := "_law_shuffled", N := ["pen", "some", "left", "found", "lap"], params := defArgs (top 30), body := defBody (top 30), scope := defScope (top 30), F := F__law_shuffled }
def d__law_gcd : Dn := { name := "_law_gcd", N := ["one", "two", "lap"], params := defArgs (top 31), body := defBody (top 31), scope := defScope (top 31), F := F__law_gcd }
def d__law_q : Dn := { name := "_law_q", N := ["top", "bottom", "by"], params := defArgs (top 32), body := defBody (top 32), scope := defScope (top 32), F := F__law_q }
def d__law_times : Dn := { name := "_law_times", N := ["one", "two"], params := defArgs (top 33), body := defBody (top 33), scope := defScope (top 33), F := F__law_times }
def d__law_behind : Dn := { name := "_law_behind", N := ["nodes", "k", "n", "node"], params := defArgs (top 34), body := defBody (top 34), scope := defScope (top 34), F := F__law_behind }
def d__law_leaves : Dn := { name := "_law_leaves", N := ["nodes", "k"], params := defArgs (top 35), body := defBody (top 35), scope := defScope (top 35), F := F__law_leaves }
def d__law_way : Dn := { name := "_law_way", N := ["nodes", "k", "found", "lap"], params := defArgs (top 36), body := defBody (top 36), scope := defScope (top 36), F := F__law_way }
def d__law_price : Dn := { name := "_law_price", N := ["pen"], params := defArgs (top 37), body := defBody (top 37), scope := defScope (top 37), F := F__law_price }
def d__law_bids : Dn := { name := "_law_bids", N := ["pen", "ats", "wide", "item"], params := defArgs (top 38), body := defBody (top 38), scope := defScope (top 38), F := F__law_bids }
def d__law_tree : Dn := { name := "_law_tree", N := ["pen", "things", "most", "wide", "nodes", "k", "ats", "parent", "item", "j"], params := defArgs (top 39), body := defBody (top 39), scope := defScope (top 39), F := F__law_tree }
def d__law_moved_tree : Dn := { name := "_law_moved_tree", N := ["pen", "many", "wide", "nodes", "k", "at", "by", "price"], params := defArgs (top 40), body := defBody (top 40), scope := defScope (top 40), F := F__law_moved_tree }
def d__law_limits : Dn := { name := "_law_limits", N := ["pen", "things", "some", "found", "j", "least"], params := defArgs (top 41), body := defBody (top 41), scope := defScope (top 41), F := F__law_limits }
def d__law_claim : Dn := { name := "_law_claim", N := ["pen", "name", "word", "nodes", "leaves_here", "spots", "k"], params := defArgs (top 42), body := defBody (top 42), scope := defScope (top 42), F := F__law_claim }
def d__law_some_asks : Dn := { name := "_law_some_asks", N := ["pen", "book", "most", "found", "lap", "word", "fit", "k", "claim"], params := defArgs (top 43), body := defBody (top 43), scope := defScope (top 43), F := F__law_some_asks }
def d__law_book : Dn := { name := "_law_book", N := ["pen", "wide", "some", "most", "nodes", "things", "claims", "book"], params := defArgs (top 44), body := defBody (top 44), scope := defScope (top 44), F := F__law_book }
def d__law_table_fault : Dn := { name := "_law_table_fault", N := ["action", "error"], params := defArgs (top 45), body := defBody (top 45), scope := defScope (top 45), F := F__law_table_fault }
def d__law_tables_due : Dn := { name := "_law_tables_due", N := ["tries", "action", "due"], params := defArgs (top 46), body := defBody (top 46), scope := defScope (top 46), F := F__law_tables_due }
def d__law_built : Dn := { name := "_law_built", N := ["book"], params := defArgs (top 47), body := defBody (top 47), scope := defScope (top 47), F := F__law_built }
def d__law_with : Dn := { name := "_law_with", N := ["book", "word", "thing", "found"], params := defArgs (top 48), body := defBody (top 48), scope := defScope (top 48), F := F__law_with }
def d__law_flat : Dn := { name := "_law_flat", N := ["rows", "found", "row"], params := defArgs (top 49), body := defBody (top 49), scope := defScope (top 49), F := F__law_flat }
def d__law_root_alone : Dn := { name := "_law_root_alone", N := ["pen", "book", "claims", "name", "word", "rows"], params := defArgs (top 50), body := defBody (top 50), scope := defScope (top 50), F := F__law_root_alone }
def d__law_market : Dn := { name := "_law_market", N := ["pen", "wide", "some"], params := defArgs (top 51), body := defBody (top 51), scope := defScope (top 51), F := F__law_market }
def d_law : Dn := { name := "law", N := ["script", "pen", "lap", "book", "model", "nodes", "ends", "k", "way", "far", "n", "found", "odd", "work", "tries"], params := defArgs (top 52), body := defBody (top 52), scope := defScope (top 52), F := F_law }
def c_Model : Clx := { name := "Model", C := C_Model, N := ["self", "things", "nodes", "limits", "claims", "asks", "measures"], params := defArgs (mem 11 0), body := defBody (mem 11 0), scope := defScope (mem 11 0) }
def LD : LawD where
  defs := d_is_whole :: d_need_between :: d_copied :: d_model_key :: d_need_model :: d_need_node :: d_parent_of :: d_children_by :: d_children :: d_inner_by :: d_leaves_by :: d_leaves :: d_inner_nodes :: d_path_by :: d_path :: d_beyond :: d__law_pen :: d__law_draw :: d__law_pick :: d__law_shuffled :: d__law_gcd :: d__law_q :: d__law_times :: d__law_behind :: d__law_leaves :: d__law_way :: d__law_price :: d__law_bids :: d__law_tree :: d__law_moved_tree :: d__law_limits :: d__law_claim :: d__law_some_asks :: d__law_book :: d__law_table_fault :: d__law_tables_due :: d__law_built :: d__law_with :: d__law_flat :: d__law_root_alone :: d__law_market :: []
  lw := d_law
  excs := [{ name := "BadNumber", fs := ["what", "number"], N := ["self", "what", "number"], params := defArgs (mem 2 0), body := defBody (mem 2 0), scope := defScope (mem 2 0) },
    { name := "BadRow", fs := ["row"], N := ["self", "row"], params := defArgs (mem 3 0), body := defBody (mem 3 0), scope := defScope (mem 3 0) },
    { name := "BadTable", fs := ["table"], N := ["self", "table"], params := defArgs (mem 4 0), body := defBody (mem 4 0), scope := defScope (mem 4 0) },
    { name := "Unlike", fs := ["what"], N := ["self", "what"], params := defArgs (mem 5 0), body := defBody (mem 5 0), scope := defScope (mem 5 0) }]
  clss := [c_Model]
  cons := []
  base := "HedgeError"
  gcd := false
  lams := ({ nl := 15, fv := [12], body := (.call "inner_nodes" (.cons (.v 12) .nil)) }) :: ({ nl := 15, fv := [12], body := (.call "leaves" (.cons (.v 12) .nil)) }) :: ({ nl := 15, fv := [13, 4, 9], body := (.cal 13 (.cons (.v 4) (.cons (.v 9) .nil))) }) :: ({ nl := 15, fv := [13, 12, 9], body := (.cal 13 (.cons (.v 12) (.cons (.v 9) .nil))) }) :: []
end L_k12
end
section
set_option linter.all false
set_option maxRecDepth 100000
set_option maxHeartbeats 2000003
namespace L_k12
open PySem Ev Kin
def depth : Nat := 14
theorem ev0 (ns : List Int) : ∃ s, evSs (cxK gl 14) F_law.body (some (.scr ns) :: List.replicate 14 none) [] = .ok (.rt (.bl true)) s := by
  obtain ⟨p, e0, o0⟩ := pen_ok kPenn 13 ns
  have main : Wp (evSs (cxK gl 14) F_law.body (some (.scr ns) :: List.replicate 14 none) []) (fun fl _ => fl = .rt (.bl true)) := by
    refine w_set <| w_rfl (r_call rfl e0) <| w_for <| w_rfl (a := [.int 0, .int 1, .int 2]) (s := [PnT.mo p]) rfl ?_
    refine w_bnd <| lap_w (t := []) o0 (by omega) rfl ?_
    intro b1 p1 T1 j1 y6 y7 y8 y9 y10 y11 o1 hb1 hT1 hj1
    refine w_bnd <| lap_w (t := T1) o1 (by omega) hT1 ?_
    intro b2 p2 T2 j2 z6 z7 z8 z9 z10 z11 o2 hb2 hT2 hj2
    refine w_bnd <| lap_w (t := T2) o2 (by omega) hT2 ?_
    intro b3 p3 T3 j3 u6 u7 u8 u9 u10 u11 o3 hb3 hT3 hj3
    refine w_ok <| kk_nx ?_
    obtain ⟨s', e⟩ := end_ok (sc := some (.scr ns)) (x2 := some (.int 2)) (x6 := u6) (x7 := u7) (x8 := u8) (x9 := u9) (x10 := u10) (x11 := u11) (x12 := none) (x13 := none) (x14 := none) o3 (by omega) hb3 hT3 hj3
    exact w_rfl e rfl
  obtain ⟨fl, s, e, rfl⟩ := main
  exact ⟨s, e⟩
theorem ev (ns : List Int) (hl : ns.length ≤ 63) (hb : ∀ z ∈ ns, Builtin.Int.intBits z ≤ 1048576) : ∃ s, LD.run depth ns = .ok (.rt (.bl true)) s := ev0 ns
end L_k12
end
section
set_option Elab.async false
set_option linter.all false
set_option maxRecDepth 100000
set_option maxHeartbeats 0
namespace L_k12
open PySem PySem.Spec PyProof.Rows L2 Ev
abbrev R : PySem.W.OpenRow := PySem.W.OpenLaw.row PySem.Challenge.rw_hedgepapers_k12_trees
abbrev qv : Program := PySem.W.view R.prog [52]
def names : List PySem.Str := (["HedgeError", "BadNumber", "BadRow", "BadTable", "Unlike", "is_whole", "need_between", "copied", "Model", "model_key", "need_model", "need_node", "parent_of", "children_by", "children", "inner_by", "leaves_by", "leaves", "inner_nodes", "path_by", "path", "beyond", "_law_pen", "_law_draw", "_law_pick", "_law_shuffled", "_law_gcd", "_law_q", "_law_times", "_law_behind"] : List PySem.Str) ++ (["_law_leaves", "_law_way", "_law_price", "_law_bids", "_law_tree", "_law_moved_tree", "_law_limits", "_law_claim", "_law_some_asks", "_law_book", "_law_table_fault", "_law_tables_due", "_law_built", "_law_with", "_law_flat", "_law_root_alone", "_law_market"] : List PySem.Str)
abbrev hk : PySem.W.Hook := Ev.hookE 5 LD.fa LD.fn [("law", none)] LD.ex
def ob (s : PySem.W.SharedT) : He.AlX := Ev.obsE 5 LD.fa LD.fn [("law", none)] LD.ex (HandSHeadRun.getT s)
theorem ob_eq (s : PySem.W.SharedT) : ob s = hk.obs s.abs := Ev.obsE_eq (HandSHeadRun.getT_eq s)
theorem okL : LD.okB = true := by decide +kernel
theorem run (w : World) : HandSHeadRun.RunEq R qv hk ob 20000 names w := by
  intro os
  kernel_rfl
end L_k12
end
section
set_option Elab.async false
set_option linter.all false
set_option maxRecDepth 100000
set_option maxHeartbeats 0
open PySem PySem.W PySem.Calls PyProof.Rows
theorem PySem.Challenge.cw_hedgepapers_k12_trees_holds : PySem.Challenge.rw_hedgepapers_k12_trees.Holds := by
  w_on; o_law
  refine HandSHeadRun.head_any (r := OpenLaw.row PySem.Challenge.rw_hedgepapers_k12_trees) (q := L_k12.qv) (H := L_k12.hk) (ob := L_k12.ob) (M := 20000) (loose := L_k12.names) (d := HandSHeadRun.topDef (OpenLaw.row PySem.Challenge.rw_hedgepapers_k12_trees).prog 52) (kwd := []) L_k12.ob_eq
    (by kernel_rfl) (fun s => by kernel_rfl) L_k12.run (by kernel_rfl) (by kernel_rfl) (by kernel_rfl) (by rfl) (by first | assumption | decide +kernel) (by decide +kernel) ⟨rfl, rfl, rfl, rfl, rfl, by decide +kernel⟩ ?hw ?hc
  case hw => w_witness2
  case hc =>
    refine Ev.walk_ev (l := PySem.Challenge.rw_hedgepapers_k12_trees) (n := 63) rfl (by decide) (by kernel_rfl) ?F
    intro w mg fa h Y G hmg0
    obtain ⟨K, KX, c⟩ := Y
    have hmg : mg ("law" : PySem.Str) = some (.ref fa) := by
      have e : (HandSHeadRun.topDef (OpenLaw.row PySem.Challenge.rw_hedgepapers_k12_trees).prog 52).name = ("law" : PySem.Str) := by kernel_rfl
      rw [← e]
      exact hmg0
    exact ⟨K, KX, Ev.ev_at L_k12.okL L_k12.depth ⟨rfl, by decide, by decide⟩ KX G c hmg L_k12.ev⟩
end
