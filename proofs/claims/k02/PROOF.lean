import PyProof.Rows.All
import PyProof.ReprReads
import PyProof.P3Statements
import PyProof.EqLayable
import Wide.All
import OpenK.AllK
import Wide.FinOn
import HandS.ForMost
import HandS.ForExc
import HandS.Wide
import HandS.WideBits
import HandS.Gcd
import HandS.HeadWalk
import PyProof.ReprRoads
import HandS.TupMul
import HandS.RaiseMore
import HandS.Deep
import HandS.TupAny
import HandS.IsInst
import HandS.More
import HandS.SortInts
import HandS.Comp
import HandS.ExcInit
import HandS.ExcField
import HandS.Codes
import HandS.TryMany
import HandS.Lambda
import HandS.Exc
import HandS.TryOnly
import HandS.Iter
import HandS.Zip
import KE.GoesEnum
import KE.GoesZip
import HandS.Style
import HandS.Defaults
import HandS.HeadHook4
import PyProof.ReprBulk
import PyProof.TableCode
import HandS.Words
import HandS.Head0
import HandS.Head1
import HandS.Head2
import HandS.Head3
import HandS.HeadEnd
import HandS.HeadHook1
import HandS.HeadHook2
import PySem.Challenge.RW_hedgepapers_k02_ratios
section
set_option linter.all false
set_option maxRecDepth 10000
namespace Ev
open PySem

abbrev Ky := Sum Int Str

/-- plain data, as a def of the text hands it on -/
inductive D where
  | non
  | bl (b : Bool)
  | int (i : Int)
  | str (x : Str)
  | tup (xs : List D)
  | lst (xs : List D)
  | scr (ns : List Int)
  | dct (ks : List Ky) (xs : List D)
  | obj (c : Str) (fs : List Str) (xs : List D)
  | fn (f : Str)
  | clo (l : Nat)
  | mu (k : Nat)
  deriving Inhabited

/-- a shared object that may change -/
inductive MO where
  | lst (xs : List D)
  | dct (ks : List Ky) (xs : List D)
  | fr (d : D)
  | env (is : List Nat) (xs : List D)
  deriving Inhabited
abbrev Sto := List MO

/-- an exception: its class, its fields -/
structure Ex where
  c : Str
  fs : List Str
  xs : List D

inductive R (α : Type) where
  | ok (a : α) (s : Sto)
  | exc (x : Ex) (s : Sto)
  | no
abbrev M (α : Type) := Sto → R α
def ret {α : Type} (a : α) : M α := fun s => .ok a s
def no {α : Type} : M α := fun _ => .no
def thr {α : Type} (x : Ex) : M α := fun s => .exc x s
def bnd {α β : Type} (m : M α) (f : α → M β) : M β := fun s => match m s with
  | .ok a s' => f a s'
  | .exc x s' => .exc x s'
  | .no => .no
def opt {α : Type} (o : Option α) : M α := match o with
  | some a => ret a
  | none => no
/-- an exception is no end here -/
def nox {α : Type} (m : M α) : M α := fun s => match m s with
  | .ok a s' => .ok a s'
  | _ => .no
@[simp] theorem bnd_ret {α β : Type} (a : α) (f : α → M β) : bnd (ret a) f = f a := rfl
@[simp] theorem bnd_no {α β : Type} (f : α → M β) : bnd (no : M α) f = no := rfl
@[simp] theorem bnd_thr {α β : Type} (x : Ex) (f : α → M β) : bnd (thr x : M α) f = thr x := rfl
theorem bnd_bnd {α β γ : Type} (m : M α) (f : α → M β) (g : β → M γ) : bnd (bnd m f) g = bnd m fun a => bnd (f a) g := by
  funext s
  unfold bnd
  cases m s <;> rfl
theorem bnd_ok {α β : Type} {m : M α} {f : α → M β} {a : α} {s s' : Sto} (h : m s = .ok a s') : bnd m f s = f a s' := by
  unfold bnd
  rw [h]
@[simp] theorem ret_app {α : Type} (a : α) (s : Sto) : ret a s = .ok a s := rfl

/-! ### data -/
def notMut : D → Bool
  | .mu _ => false
  | _ => true
def pureA (xs : List D) : Bool := xs.all notMut
mutual
def toPy : D → Option PyData
  | .non => some .none
  | .bl b => some (.bool b)
  | .int i => some (.int i)
  | .str x => some (.str x)
  | .tup xs => (toPys xs).map .tuple
  | .lst xs => (toPys xs).map .list
  | _ => none
def toPys : List D → Option (List PyData)
  | [] => some []
  | x :: xs => match toPy x with
    | some d => match toPys xs with
      | some ds => some (d :: ds)
      | none => none
    | none => none
end
mutual
/-- how much text its repr is at most, in pieces of 600 signs -/
def wt : D → Nat
  | .str x => x.length + 1
  | .tup xs => wts xs + 1
  | .lst xs => wts xs + 1
  | _ => 1
def wts : List D → Nat
  | [] => 0
  | x :: xs => wt x + wts xs
end
/-- a bound of the ints' size that all rules take -/
def szI (i : Int) : Bool := decide (i.natAbs.log2 < 9000)
def keyD : D → Option Ky
  | .int i => some (.inl i)
  | .str x => some (.inr x)
  | _ => none
def getK : List Ky → List D → Ky → Option D
  | k :: ks, x :: xs, y => if k = y then some x else getK ks xs y
  | _, _, _ => none
def putK : List Ky → List D → Ky → D → List Ky × List D
  | k :: ks, x :: xs, y, v => if k = y then (k :: ks, v :: xs) else ((k :: (putK ks xs y v).1), (x :: (putK ks xs y v).2))
  | _, _, y, v => ([y], [v])
def lkF : List Str → List D → Str → Option D
  | k :: ks, x :: xs, y => if k = y then some x else lkF ks xs y
  | _, _, _ => none
def ixN (n : Nat) (i : Int) : Option Nat := if 0 ≤ i then (if i < n then some i.toNat else none) else if -(n : Int) ≤ i then some (i + n).toNat else none
def atI (xs : List D) (i : Int) : Option D := match ixN xs.length i with
  | some j => xs[j]?
  | none => none
def sIx (n d : Nat) : Option Int → Nat
  | none => d
  | some i => if i < 0 then (i + n).toNat else min i.toNat n
def cutD (xs : List D) (lo hi : Option Int) : List D := (xs.drop (sIx xs.length 0 lo)).take (sIx xs.length xs.length hi - sIx xs.length 0 lo)
def eqD (a b : D) : Option Bool := match toPy a, toPy b with
  | some p, some q => if SeqAt.shaped p && SeqAt.shaped q then some (PyData.eqv p q) else none
  | _, _ => none
def strS : D → Option Str
  | .str x => some x
  | _ => none
/-- ==, texts at once -/
def eqS (a b : D) : Option Bool := match strS a, strS b with
  | some x, some y => some (decide (x = y))
  | _, _ => eqD a b
/-- what an object of the store holds at the moment -/
def thD : D → Sto → D
  | .mu k, s => match s[k]? with
    | some (.lst xs) => .lst xs
    | some (.dct ks xs) => .dct ks xs
    | some (.fr d) => d
    | _ => .mu k
  | d, _ => d
/-- x in a row of data -/
def inD (x : D) (ys : List D) : Option Bool := match toPy x, toPys ys with
  | some d, some ds => if SeqAt.shaped d && SeqAt.shaped (.list ds) && SeqAt.shaped (.tuple ds) then some (ds.any fun z => PyData.eqv z d) else none
  | _, _ => none
def conD (x y : D) : Option Bool := match y with
  | .tup ys => inD x ys
  | .lst ys => inD x ys
  | .dct ks ys => match keyD x with
    | some k => some (getK ks ys k).isSome
    | none => none
  | _ => none
def truO : D → Option Bool
  | .non => some false
  | .bl b => some b
  | .int i => some (i != 0)
  | .str x => if decide (x.length ≤ 1000000) then some ((x.length : Int) != 0) else none
  | .tup xs => some (!xs.isEmpty)
  | .lst xs => some (!xs.isEmpty)
  | _ => none
def truD (d : D) (s : Sto) : Option Bool := truO (thD d s)
/-- the items that a loop takes -/
def itemsO : D → Option (List D)
  | .tup xs => some xs
  | .lst xs => some xs
  | .scr ns => some (ns.map .int)
  | _ => none
def itemsD (d : D) (s : Sto) : Option (List D) := itemsO (thD d s)
/-- a new object: changing, or plain from now on -/
def alloc (m : Bool) (o : MO) : M D := fun s => match m with
  | true => .ok (.mu s.length) (s ++ [o])
  | false => match o with
    | .lst xs => .ok (.lst xs) s
    | .dct ks xs => .ok (.dct ks xs) s
    | .fr _ => .no
    | .env _ _ => .no
/-- a changing object stays as it is from now on -/
def frzD (d : D) : M D := fun s => match d with
  | .mu k => (match s[k]? with
    | some (.lst xs) => .ok (.lst xs) (s.set k (.fr (.lst xs)))
    | some (.dct ks xs) => .ok (.dct ks xs) (s.set k (.fr (.dct ks xs)))
    | some (.fr d) => .ok d s
    | _ => .no)
  | d => .ok d s
def frzDs : List D → M (List D)
  | [] => ret []
  | d :: ds => bnd (frzD d) fun x => bnd (frzDs ds) fun xs => ret (x :: xs)

/-! ### operators -/
def mulOk (i j : Int) : Bool := szI i && szI j
def opD (o : Option D) : M D := fun s => match o with
  | some r => .ok r s
  | none => .no
def binO (op : Operator) (a b : D) : Option D := match op, a, b with
  | .Add, .int i, .int j => some (.int (i + j))
  | .Sub, .int i, .int j => some (.int (i - j))
  | .Mult, .int i, .int j => if mulOk i j then some (.int (i * j)) else none
  | .FloorDiv, .int i, .int j => if decide (j ≠ 0) && szI j then some (.int (i.fdiv j)) else none
  | .Mod, .int i, .int j => if decide (0 < j) then some (.int (i % j)) else none
  | .Pow, .int i, .int j => if decide (0 ≤ j) && decide (j ≤ 1000000) && decide (i.natAbs < 2 ^ 64) then some (.int (i ^ j.toNat)) else none
  | .Add, .tup xs, .tup ys => if decide (xs.length + ys.length ≤ 1000000) then some (.tup (xs ++ ys)) else none
  | .Add, .lst xs, .lst ys => if decide (xs.length + ys.length ≤ 1000000) then some (.lst (xs ++ ys)) else none
  | .Add, .str x, .str y => if decide (x.length + y.length ≤ 1000000) then some (.str (x ++ y)) else none
  | .Mult, .tup xs, .int k => if decide (0 ≤ k) && decide (k ≤ 1000000) && decide (xs.length * k.toNat ≤ 1000000) then some (.tup (List.replicate k.toNat xs).flatten) else none
  | .Mult, .lst xs, .int k => if decide (0 ≤ k) && decide (k ≤ 1000000) && decide (xs.length * k.toNat ≤ 1000000) then some (.lst (List.replicate k.toNat xs).flatten) else none
  | _, _, _ => none
def binD (op : Operator) (a b : D) : M D := fun s => opD (binO op (thD a s) (thD b s)) s
def isNon : D → Bool
  | .non => true
  | _ => false
def isBl (c : Bool) : D → Bool
  | .bl b => b == c
  | _ => false
def opB (o : Option Bool) : M Bool := fun s => match o with
  | some r => .ok r s
  | none => .no
def ltI (op : CmpOp) (i j : Int) : Option Bool := match op with
  | .Lt => some (decide (i < j))
  | .LtE => some (decide (i ≤ j))
  | .Gt => some (decide (j < i))
  | .GtE => some (decide (j ≤ i))
  | _ => none
def cmpO (op : CmpOp) (a b : D) : Option Bool := match op with
  | .Eq => eqS a b
  | .NotEq => (eqS a b).map (!·)
  | .Is => (match b with
    | .non => some (isNon a)
    | .bl c => some (isBl c a)
    | _ => none)
  | .IsNot => (match b with
    | .non => some (!isNon a)
    | .bl c => some (!isBl c a)
    | _ => none)
  | .In => conD a b
  | .NotIn => (conD a b).map (!·)
  | op => (match a, b with
    | .int i, .int j => ltI op i j
    | _, _ => none)
def cmpD (op : CmpOp) (a b : D) : M Bool := fun s => opB (cmpO op (thD a s) (thD b s)) s
def getO (a b : D) : Option D := match a with
  | .tup xs => (match b with
    | .int i => atI xs i
    | _ => none)
  | .lst xs => (match b with
    | .int i => atI xs i
    | _ => none)
  | .dct ks xs => (match keyD b with
    | some k => getK ks xs k
    | none => none)
  | _ => none
def getD (a b : D) : M D := fun s => opD (getO (thD a s) b) s
def setD (a b v : D) : M Unit := match a with
  | .mu m => bnd (frzD v) fun v => fun s => (match s[m]? with
    | some (.lst xs) => (match b with
      | .int i => (match ixN xs.length i with
        | some j => .ok () (s.set m (.lst (xs.set j v)))
        | none => .no)
      | _ => .no)
    | some (.dct ks xs) => (match keyD b with
      | some k => if decide (ks.length < 1000000) then .ok () (s.set m (.dct (putK ks xs k v).1 (putK ks xs k v).2)) else .no
      | none => .no)
    | _ => .no)
  | _ => no
def optI : List D → Option (Option Int)
  | [] => some none
  | [.int i] => some (some i)
  | _ => none
def optB {α β : Type} (o : Option α) (f : α → M β) : M β := match o with
  | some a => f a
  | none => no
def cutO (m : Bool) (a : D) (lo hi : Option Int) : M D := fun s => match thD a s with
  | .tup xs => .ok (.tup (cutD xs lo hi)) s
  | .lst xs => alloc m (.lst (cutD xs lo hi)) s
  | _ => .no
def fldD (a : D) (f : Str) : M D := match a with
  | .obj _ fs xs => opt (lkF fs xs f)
  | _ => no
/-- a class that is asked for -/
inductive Kd where
  | ty (n : String)
  | own (c : Str)
def tyNs : List String := ["bool", "int", "str", "tuple", "list", "dict"]
def isiB : D → String → Option Bool
  | .non, _ => some false
  | .bl _, t => some (t == "bool" || t == "int")
  | .int _, t => some (t == "int")
  | .str _, t => some (t == "str")
  | .tup _, t => some (t == "tuple")
  | .lst _, t => some (t == "list")
  | .dct _ _, t => some (t == "dict")
  | .obj _ _ _, _ => some false
  | _, _ => none
/-- isinstance of one class: a built-in type, or an own one, by a table -/
def isiD (isa : Str → Str → Option Bool) (d : D) : Kd → Option Bool
  | .ty n => if n ∈ tyNs then isiB d n else none
  | .own t => match d with
    | .obj c _ _ => isa c t
    | d => match isiB d "" with
      | some _ => if (isa t t).isSome then some false else none
      | none => none
def isiAny (isa : Str → Str → Option Bool) (d : D) : List Kd → Option Bool
  | [] => some false
  | t :: ts => match isiD isa d t with
    | some true => some true
    | some false => isiAny isa d ts
    | none => none
def intsOf : List D → Option (List Int)
  | [] => some []
  | .int i :: r => (intsOf r).map (i :: ·)
  | _ => none
def blsOf : List D → Option (List Bool)
  | [] => some []
  | .bl i :: r => (blsOf r).map (i :: ·)
  | _ => none
def insI (x : Int) : List Int → List Int
  | [] => [x]
  | y :: ys => if x ≤ y then x :: y :: ys else y :: insI x ys
def sortI (xs : List Int) : List Int := xs.foldr insI []
/-- built-in functions, by their arguments -/
inductive Bf where
  | len | repr | int | abs | max | gcd | str | tuple | all | any | sum
  deriving DecidableEq
inductive Bm where
  | list | sorted | dict
  deriving DecidableEq
inductive Me where
  | append | insert | pop | bits
  deriving DecidableEq
mutual
/-- what repr reads: an empty dict too -/
def toPyX : D → Option PyData
  | .tup xs => (toPyXs xs).map .tuple
  | .lst xs => (toPyXs xs).map .list
  | .dct [] [] => some (.dict [])
  | d => toPy d
def toPyXs : List D → Option (List PyData)
  | [] => some []
  | x :: xs => match toPyX x with
    | some d => match toPyXs xs with
      | some ds => some (d :: ds)
      | none => none
    | none => none
end
mutual
def noLst : D → Bool
  | .tup xs => noLsts xs
  | .lst _ => false
  | _ => true
def noLsts : List D → Bool
  | [] => true
  | x :: xs => noLst x && noLsts xs
end
def reprD (d : D) : Option Str := match toPyX d with
  | some p => if decide (p.shown.length ≤ 1000000) && p.showable && decide (p.depth ≤ 64) && (!p.hasDict || noLst d) then some p.shown else none
  | none => none
def biO (b : Bf) (xs : List D) : Option D := match b with
  | .len => (match xs with
    | [.str x] => if decide (x.length ≤ 1000000) then some (.int x.length) else none
    | [.dct ks _] => some (.int ks.length)
    | [d] => (itemsO d).map fun ys => .int ys.length
    | _ => none)
  | .repr => (match xs with
    | [d] => (reprD d).map .str
    | _ => none)
  | .int => (match xs with
    | [.int i] => some (.int i)
    | _ => none)
  | .abs => (match xs with
    | [.int i] => some (.int (if i < 0 then -i else i))
    | _ => none)
  | .max => (match xs with
    | [.int i, .int j] => some (.int (if j > i then j else i))
    | _ => none)
  | .gcd => (match xs with
    | [.int i, .int j] => some (.int (Nat.gcd i.natAbs j.natAbs : Nat))
    | _ => none)
  | .str => (match xs with
    | [.int i] => if decide (i.natAbs.log2 < 1920) then some (.str (toString i)) else none
    | _ => none)
  | .tuple => (match xs with
    | [d] => (itemsO d).map .tup
    | _ => none)
  | .all => (match xs with
    | [.lst ys] => (blsOf ys).map fun bs => .bl (bs.all id)
    | _ => none)
  | .any => (match xs with
    | [.lst ys] => (blsOf ys).map fun bs => .bl (bs.any id)
    | _ => none)
  | .sum => (match xs with
    | [.lst ys] => (intsOf ys).map fun bs => .int bs.sum
    | _ => none)
def biD (b : Bf) (xs : List D) : M D := fun s => opD (biO b (xs.map (thD · s))) s
/-- built-in functions that make a list or a dict -/
def mkO (b : Bm) (xs : List D) : Option MO := match b with
  | .list => (match xs with
    | [d] => (itemsO d).map .lst
    | _ => none)
  | .sorted => (match xs with
    | [.lst ys] => (intsOf ys).map fun is => .lst ((sortI is).map .int)
    | _ => none)
  | .dict => (match xs with
    | [.dct ks ys] => some (.dct ks ys)
    | _ => none)
def mkD (b : Bm) (m : Bool) (xs : List D) : M D := fun s => match mkO b (xs.map (thD · s)) with
  | some o => alloc m o s
  | none => .no
/-- the receiver is of the method's type -/
def metB (f : Me) (d : D) : Bool := match f, d with
  | .bits, .int _ => true
  | .bits, _ => false
  | _, .lst _ => true
  | _, _ => false
/-- methods of built-in types -/
def metD (a : D) (f : Me) (xs : List D) : M D := match f with
  | .append => (match a, xs with
    | .mu k, [v] => bnd (frzD v) fun v => fun s => (match s[k]? with
      | some (.lst ys) => if decide (ys.length < 1000000) then .ok .non (s.set k (.lst (ys ++ [v]))) else .no
      | _ => .no)
    | _, _ => no)
  | .insert => (match a, xs with
    | .mu k, [.int i, v] => bnd (frzD v) fun v => fun s => if decide (i = 0) then (match s[k]? with
      | some (.lst ys) => if decide (ys.length < 1000000) then .ok .non (s.set k (.lst (v :: ys))) else .no
      | _ => .no) else .no
    | _, _ => no)
  | .pop => (match a, xs with
    | .mu k, [.int i] => fun s => (match s[k]? with
      | some (.lst ys) => (match ixN ys.length i with
        | some j => (match ys[j]? with
          | some v => .ok v (s.set k (.lst (ys.eraseIdx j)))
          | none => .no)
        | none => .no)
      | _ => .no)
    | _, _ => no)
  | .bits => (match a, xs with
    | .int i, [] => ret (.int (if i = 0 then 0 else i.natAbs.log2 + 1 : Nat))
    | _, _ => no)

/-! ### the core -/
inductive Cst where
  | non | bl (b : Bool) | int (i : Int) | str (x : Str)
  deriving DecidableEq
def Cst.d : Cst → D
  | .non => .non
  | .bl b => .bl b
  | .int i => .int i
  | .str x => .str x
mutual
inductive E where
  | c (k : Cst)
  | v (i : Nat)
  | g (x : Str)
  | tup (es : Es)
  | lst (m : Bool) (es : Es)
  | dct (m : Bool) (ks : List Ky) (es : Es)
  | bin (op : Operator) (a b : E)
  | neg (a : E)
  | cmp (op : CmpOp) (a b : E)
  | chain (op op' : CmpOp) (a b c : E)
  | andv (a b : E)
  | orv (a b : E)
  | notv (a : E)
  | ife (t : T) (a b : E)
  | ix (a b : E)
  | sl (m : Bool) (a : E) (lo hi : Es)
  | fld (a : E) (f : Str)
  | call (f : Str) (es : Es)
  | mk (c : Str) (es : Es)
  | bi (b : Bf) (es : Es)
  | mkb (b : Bm) (m : Bool) (es : Es)
  | met (a : E) (f : Me) (es : Es)
  | cal (i : Nat) (es : Es)
  | isi (a : E) (ts : List Kd)
  | comp (m : Bool) (own : List (Str × Nat)) (tg : Tg) (it : It) (cs : Ts) (elt : E)
  | callC (f : Str) (es : Es) (is : List Nat)
  | xf (f : Str)
inductive Es where
  | nil
  | cons (e : E) (r : Es)
inductive T where
  | val (e : E)
  | cmp (op : CmpOp) (a b : E)
  | chain (op op' : CmpOp) (a b c : E)
  | and (a b : T)
  | or (a b : T)
  | not (a : T)
inductive Ts where
  | nil
  | cons (t : T) (r : Ts)
inductive It where
  | seq (e : E)
  | rng (es : Es)
  | enum (e : E)
  | zip (es : Es)
inductive Tg where
  | name (i : Nat)
  | tup (ts : Tgs)
  | ix (a b : E)
inductive Tgs where
  | nil
  | cons (t : Tg) (r : Tgs)
end
mutual
inductive S where
  | asg (t : Tg) (e : E)
  | par (is : List Nat) (es : Es)
  | lamN (i l : Nat) (e : E)
  | lamA (i l : Nat) (e : E)
  | aug (i : Nat) (op : Operator) (e : E)
  | exp (e : E)
  | rtn (e : E)
  | rtnN
  | ite (t : T) (a b : Ss)
  | for_ (t : Tg) (it : It) (b : Ss)
  | whl (t : T) (b : Ss)
  | rse (c : Str) (es : Es)
  | try_ (i : Nat) (b : Ss) (hs : Hs)
  | pass | brk | cont
inductive Ss where
  | nil
  | cons (s : S) (r : Ss)
inductive Hs where
  | nil
  | cons (c : Str) (e : E) (r : Hs)
end

/-! ### the run -/
abbrev En := List (Option D)
structure Orc where
  fn : Str → List D → M D
  clo : Nat → M D
/-- what a body reads: module constants, classes, calls, the frame's level, the exception at hand -/
structure Cx' where
  con : Str → Option D
  isa : Str → Str → Option Bool
  exs : Str → Option (List Str)
  orc : Orc
  wf : Nat
  cur : Option Ex
def zipD : List (List D) → List (List D)
  | [] => []
  | [xs] => xs.map ([·])
  | xs :: r => (xs.zip (zipD r)).map fun p => p.1 :: p.2
def smI (i : Int) : Bool := decide (-1000000 ≤ i) && decide (i ≤ 1000000)
def rngD : List D → Option (List D)
  | [.int n] => if smI n then some ((List.range n.toNat).map fun (i : Nat) => D.int i) else none
  | [.int a, .int b] => if smI a && smI b then some ((List.range (b - a).toNat).map fun (i : Nat) => D.int (a + i)) else none
  | _ => none
def itemsOs : List D → Option (List (List D))
  | [] => some []
  | x :: xs => match itemsO x with
    | some a => (itemsOs xs).map (a :: ·)
    | none => none
def consO {α : Type} : Option α → List α → List α
  | some a, r => a :: r
  | none, r => r
def loopC {α : Type} (f : D → M (Option α)) : List D → M (List α)
  | [] => ret []
  | x :: xs => bnd (f x) fun o => bnd (loopC f xs) fun r => ret (consO o r)
inductive Fl where
  | nx (e : En) | rt (d : D) | bk (e : En) | ct (e : En)
def loopF (f : D → En → M Fl) : List D → En → M Fl
  | [], e => ret (.nx e)
  | x :: xs, e => bnd (f x e) fun o => match o with
    | .nx e' => loopF f xs e'
    | .ct e' => loopF f xs e'
    | .bk e' => ret (.nx e')
    | .rt d => ret (.rt d)
def loopW (t : En → M Bool) (f : En → M Fl) : Nat → En → M Fl
  | 0, _ => no
  | n + 1, e => bnd (t e) fun b => match b with
    | false => ret (.nx e)
    | true => bnd (f e) fun o => match o with
      | .nx e' => loopW t f n e'
      | .ct e' => loopW t f n e'
      | .bk e' => ret (.nx e')
      | .rt d => ret (.rt d)
def setE (e : En) (i : Nat) (d : D) : En := e.set i (some d)
def setEs (e : En) : List Nat → List D → Option En
  | [], [] => some e
  | i :: is, d :: ds => setEs (setE e i d) is ds
  | _, _ => none
mutual
def asgP (t : Tg) (d : D) (e : En) : Option En := match t with
  | .name i => some (setE e i d)
  | .tup ts => match d with
    | .tup xs => asgPs ts xs e
    | .lst xs => asgPs ts xs e
    | _ => none
  | _ => none
def asgPs (ts : Tgs) (xs : List D) (e : En) : Option En := match ts, xs with
  | .nil, [] => some e
  | .cons t r, x :: xs => match asgP t x e with
    | some e' => asgPs r xs e'
    | none => none
  | _, _ => none
end
/-- a plain assignment's target -/
def asgA (t : Tg) (ev : E → En → M D) (d : D) (e : En) : M En := match t with
  | .name i => ret (setE e i d)
  | .ix a b => bnd (ev a e) fun o => bnd (ev b e) fun i => bnd (setD o i d) fun _ => ret e
  | .tup ts => bnd (frzD d) fun d => opt (asgP (.tup ts) d e)
/-- the captured slots' values -/
def capD (e : En) : List Nat → Option (List D)
  | [] => some []
  | i :: r => match e[i]? with
    | some (some d) => (capD e r).map (d :: ·)
    | _ => none
/-- no closures' frame is told -/
def noEnv (s : Sto) : Bool := s.all fun
  | .env (_ :: _) _ => false
  | _ => true
/-- the frame whose closures are at hand: where it is told, its slots, their values -/
def envS : Sto → Option (Nat × List Nat × List D)
  | [] => none
  | .env (i :: is) xs :: s => if noEnv s then some (0, i :: is, xs) else none
  | _ :: s => (envS s).map fun q => (q.1 + 1, q.2)
/-- slots set -/
def fillE (e : En) : List Nat → List D → En
  | i :: is, d :: ds => fillE (setE e i d) is ds
  | _, _ => e
def blM (m : M D) : M Bool := bnd m fun d => match d with
  | .bl b => ret b
  | _ => no
section
variable (X : Cx')
mutual
def evE (c : E) (e : En) : M D := match c with
  | .c k => ret k.d
  | .v i => (match e[i]? with
    | some (some d) => ret d
    | _ => no)
  | .g x => opt (X.con x)
  | .tup es => bnd (evEs es e) fun xs => bnd (frzDs xs) fun xs => ret (.tup xs)
  | .lst m es => bnd (evEs es e) fun xs => bnd (frzDs xs) fun xs => alloc m (.lst xs)
  | .dct m ks es => bnd (evEs es e) fun xs => bnd (frzDs xs) fun xs => if decide (ks.length = xs.length) && decide ks.Nodup then alloc m (.dct ks xs) else no
  | .bin op a b => bnd (evE a e) fun x => bnd (evE b e) fun y => binD op x y
  | .neg a => bnd (evE a e) fun x => (match x with
    | .int i => ret (.int (-i))
    | _ => no)
  | .cmp op a b => bnd (evE a e) fun x => bnd (evE b e) fun y => bnd (cmpD op x y) fun r => ret (.bl r)
  | .chain op op' a b c => bnd (evE a e) fun x => bnd (evE b e) fun y => bnd (cmpD op x y) fun r => (match r with
    | false => ret (.bl false)
    | true => bnd (evE c e) fun z => bnd (cmpD op' y z) fun r => ret (.bl r))
  | .andv a b => bnd (blM (evE a e)) fun r => (match r with
    | true => evE b e
    | false => ret (.bl false))
  | .orv a b => bnd (blM (evE a e)) fun r => (match r with
    | true => ret (.bl true)
    | false => evE b e)
  | .notv a => bnd (evE a e) fun x => fun s => (match truD x s with
    | some r => .ok (.bl (!r)) s
    | none => .no)
  | .ife t a b => bnd (evT t e) fun r => (match r with
    | true => evE a e
    | false => evE b e)
  | .ix a b => bnd (evE a e) fun x => bnd (evE b e) fun y => getD x y
  | .sl m a lo hi => bnd (evE a e) fun x => bnd (evEs lo e) fun l => optB (optI l) fun l => bnd (evEs hi e) fun h => optB (optI h) fun h => cutO m x l h
  | .fld a f => bnd (evE a e) fun x => fldD x f
  | .call f es => bnd (evEs es e) fun xs => X.orc.fn f xs
  | .mk c es => bnd (evEs es e) fun xs => X.orc.fn c xs
  | .bi b es => bnd (evEs es e) fun xs => biD b xs
  | .mkb b m es => bnd (evEs es e) fun xs => mkD b m xs
  | .met a f es => bnd (evE a e) fun x => fun s => if metB f (thD x s) then bnd (evEs es e) (fun xs => metD x f xs) s else .no
  | .cal i es => (match e[i]? with
    | some (some (.fn f)) => bnd (evEs es e) fun xs => X.orc.fn f xs
    | some (some (.clo l)) => (match es with
      | .nil => X.orc.clo l
      | _ => no)
    | _ => no)
  | .isi a ts => bnd (evE a e) fun x => fun s => opD ((isiAny X.isa (thD x s) ts).map .bl) s
  | .comp m own tg it cs elt => bnd (evIt it e) fun xs => bnd (nox (loopC (fun x => match asgP tg x (own.foldl (fun e p => e.set p.2 none) e) with
      | some e' => bnd (evTs cs e') fun r => (match r with
        | true => bnd (evE elt e') fun d => bnd (frzD d) fun d => ret (some d)
        | false => ret none)
      | none => no) xs)) fun ys => if decide (ys.length ≤ 1000000) then alloc m (.lst ys) else no
  | .callC f es is => bnd (evEs es e) fun xs => optB (capD e is) fun ys => bnd (frzDs ys) fun ys => fun s => (match X.orc.fn f xs (s ++ [.env is ys]) with
    | .ok (.bl b) s' => if noEnv (s'.take s.length) then .ok (.bl b) (s'.take s.length) else .no
    | _ => .no)
  | .xf f => (match X.cur with
    | some x => opt (lkF x.fs x.xs f)
    | none => no)
def evEs (c : Es) (e : En) : M (List D) := match c with
  | .nil => ret []
  | .cons a r => bnd (evE a e) fun x => bnd (evEs r e) fun xs => ret (x :: xs)
def evT (c : T) (e : En) : M Bool := match c with
  | .val a => bnd (evE a e) fun x => fun s => (match truD x s with
    | some r => .ok r s
    | none => .no)
  | .cmp op a b => bnd (evE a e) fun x => bnd (evE b e) fun y => cmpD op x y
  | .chain op op' a b c => bnd (evE a e) fun x => bnd (evE b e) fun y => bnd (cmpD op x y) fun r => (match r with
    | false => ret false
    | true => bnd (evE c e) fun z => cmpD op' y z)
  | .and a b => bnd (evT a e) fun r => (match r with
    | true => evT b e
    | false => ret false)
  | .or a b => bnd (evT a e) fun r => (match r with
    | true => ret true
    | false => evT b e)
  | .not a => bnd (evT a e) fun r => ret (!r)
def evTs (c : Ts) (e : En) : M Bool := match c with
  | .nil => ret true
  | .cons t r => bnd (evT t e) fun b => (match b with
    | true => evTs r e
    | false => ret false)
def evIt (c : It) (e : En) : M (List D) := match c with
  | .seq a => bnd (evE a e) fun x => bnd (frzD x) fun x => opt (itemsO x)
  | .rng es => bnd (evEs es e) fun xs => opt (rngD xs)
  | .enum a => bnd (evE a e) fun x => bnd (frzD x) fun x => opt ((itemsO x).map fun xs => (xs.zipIdx).map fun p => .tup [.int p.2, p.1])
  | .zip es => bnd (evEs es e) fun xs => bnd (frzDs xs) fun xs => opt ((itemsOs xs).map fun l => (zipD l).map .tup)
end
mutual
def evS (c : S) (e : En) : M Fl := match c with
  | .asg t x => bnd (evE X x e) fun d => bnd (asgA t (evE X) d e) fun e' => ret (.nx e')
  | .par is es => bnd (evEs X es e) fun xs => (match setEs e is xs with
    | some e' => ret (.nx e')
    | none => no)
  | .lamN i l x => bnd (evE X x e) fun d => bnd (frzD d) fun d => bnd (alloc true (.lst [.tup [.clo l, d]])) fun r => ret (.nx (setE e i r))
  | .lamA i l x => (match e[i]? with
    | some (some o) => fun s => if metB .append (thD o s) then bnd (evE X x e) (fun d => bnd (frzD d) fun d => bnd (metD o .append [.tup [.clo l, d]]) fun _ => ret (.nx e)) s else .no
    | _ => no)
  | .aug i op x => no
  | .exp x => bnd (evE X x e) fun _ => ret (.nx e)
  | .rtn x => bnd (evE X x e) fun d => ret (.rt d)
  | .rtnN => ret (.rt .non)
  | .ite t a b => bnd (evT X t e) fun r => (match r with
    | true => evSs a e
    | false => evSs b e)
  | .for_ t it b => bnd (evIt X it e) fun xs => loopF (fun x e => match asgP t x e with
    | some e' => evSs b e'
    | none => no) xs e
  | .whl t b => loopW (evT X t) (evSs b) X.wf e
  | .rse c es => bnd (evEs X es e) fun xs => bnd (frzDs xs) fun xs => (match X.exs c with
    | some fs => if decide (fs.length = xs.length) then thr ⟨c, fs, xs⟩ else no
    | none => no)
  | .try_ _ b hs => fun s => (match evSs b e s with
    | .ok fl s' => .ok fl s'
    | .exc x s' => if decide (X.exs x.c = some x.fs) then evHs hs x s' else .no
    | .no => .no)
  | .pass => ret (.nx e)
  | .brk => ret (.bk e)
  | .cont => ret (.ct e)
def evSs (c : Ss) (e : En) : M Fl := match c with
  | .nil => ret (.nx e)
  | .cons a r => bnd (evS a e) fun f => (match f with
    | .nx e' => evSs r e'
    | f => ret f)
def evHs (c : Hs) (x : Ex) : M Fl := match c with
  | .nil => thr x
  | .cons c b r => if x.c = c then bnd (evE { X with cur := some x } b []) fun d => ret (.rt d) else evHs r x
end
end
structure Fn where
  np : Nat
  nl : Nat
  dfl : List D := []
  body : Ss
structure Lam where
  nl : Nat
  fv : List Nat
  body : E
/-- a class: what its __init__ sets, in that order -/
structure Cl where
  np : Nat
  dfl : List D := []
  fs : List Str
  es : Es
structure Gl where
  con : Str → Option D
  isa : Str → Str → Option Bool
  cls : Str → Option Cl
  exs : Str → Option (List Str)
  fn : Str → Option Fn
  lam : Nat → Option Lam
  wf : Nat
/-- the end of a call at store length n: what it made is forgotten, unless it is what comes back -/
def leave (n : Nat) (d : D) : M D := fun s => match d with
  | .mu k => if k < n then .ok d (s.take n) else .ok d s
  | .clo _ => .no
  | d => .ok d (s.take n)
def fillA (np : Nat) (dfl xs : List D) : Option (List D) :=
  if xs.length ≤ np ∧ np ≤ xs.length + dfl.length then some (xs ++ dfl.drop (xs.length + dfl.length - np)) else none
def runB (X : Cx') (f : Fn) (xs : List D) : M D := fun s =>
  match evSs X f.body (xs.map some ++ List.replicate (f.nl - xs.length) none) s with
  | .ok (.rt d) s' => leave s.length d s'
  | .ok (.nx _) s' => .ok .non (s'.take s.length)
  | .ok _ _ => .no
  | .exc x s' => .exc x (s'.take s.length)
  | .no => .no
def orcAt (G : Gl) : Nat → Orc
  | 0 => ⟨fun _ _ => no, fun _ => no⟩
  | k + 1 =>
    let X : Cx' := ⟨G.con, G.isa, G.exs, orcAt G k, G.wf, none⟩
    ⟨fun f xs => (match G.fn f with
      | some F => (match fillA F.np F.dfl xs with
        | some ys => runB X F ys
        | none => no)
      | none => (match G.cls f with
        | some C => (match fillA C.np C.dfl xs with
          | some ys => (fun s => match evEs X C.es (none :: ys.map some) s with
            | .ok zs s' => (match frzDs zs s' with
              | .ok zs s' => if decide (C.fs.length = zs.length) then .ok (.obj f C.fs zs) (s'.take s.length) else .no
              | _ => .no)
            | .exc x s' => .exc x (s'.take s.length)
            | .no => .no)
          | none => no)
        | none => no)),
     fun l => (match G.lam l with
      | some L => (fun s => match envS s with
        | some (j, is, ys) => if decide is.Nodup && L.fv.all (is.contains ·) then (match evE X L.body (fillE (List.replicate L.nl none) is ys) (s.set j (.env [] [])) with
          | .ok d s' => (match s'[j]? with
            | some (.env [] []) => leave s.length d (s'.set j (.env is ys))
            | _ => .no)
          | .exc x s' => (match s'[j]? with
            | some (.env [] []) => .exc x ((s'.set j (.env is ys)).take s.length)
            | _ => .no)
          | .no => .no) else .no
        | none => .no)
      | none => no)⟩
end Ev
end
section
set_option Elab.async false
set_option linter.all false
set_option maxRecDepth 100000
namespace Ev
open PySem PySem.Spec PyProof.Rows L2

/-- what is seen: objects that stay as they are; cells and what they hold -/
structure Vw where
  G : Hp
/-- the frame whose closures are at hand: its cells by slots, its closures, their code -/
class Gh where
  S : Nat → Option Addr
  P : Nat → Addr → HO → Addr → HO → Prop
variable [Gh]
def SubG (G H : Hp) : Prop := ∀ a o, G a = some o → H a = some o
theorem SubG.refl (G : Hp) : SubG G G := fun _ _ h => h
theorem SubG.trans {A B C : Hp} (x : SubG A B) (y : SubG B C) : SubG A C := fun a o h => y a o (x a o h)
theorem rd_sub {G H : Hp} {a : Addr} {u : HO} (s : SubG G H) (h : Rd G a u) : Rd H a u := by
  rcases h with h | ⟨o, h⟩
  · exact .inl (s _ _ h)
  · exact .inr ⟨o, s _ _ h⟩
theorem sqT_sub {K : PySem.W.Frag} {G H : Hp} {a : Addr} {xs : List V} (s : SubG G H) (h : SqT K G a xs) : SqT K H a xs := by
  rcases h with h | h
  · exact .inl (rd_sub s h)
  · exact .inr h
theorem sqL_sub {K : PySem.W.Frag} {G H : Hp} {a : Addr} {xs : List V} (s : SubG G H) (h : SqL K G a xs) : SqL K H a xs := by
  rcases h with h | h
  · exact .inl (rd_sub s h)
  · exact .inr h

/-- a class whose instances are plain -/
structure ClsOk (K : PySem.W.Frag) (C : Addr) (fs : List Str) : Prop where
  cl : Cls K C
  na : ∀ f ∈ fs, NoAttr K C f
  ha : PySem.W.findIn K (.ref C) "__class__" = some (some (.builtin "object.__class__"))
  hn : PySem.W.specialIn K (.builtin "object.__class__") "__get__" = some (some (.builtin "getset_descriptor.__get__"))
  htk : PySem.W.takesIn K (.builtin "object.__class__") = some true
  hm : PySem.W.mroIn K C (.type "object") = some true
  kb : ∀ n ∈ tyNs, PySem.W.kitOne K (.ref C) (.type n) = some false
section
variable (K : PySem.W.Frag) (mg : Str → Option Value)
mutual
/-- the data d stands at v -/
def Rp (W : Vw) : D → V → Prop
  | .non, v => v = .non
  | .bl b, v => v = .bl b
  | .int i, v => v = .int i
  | .str x, v => v = .str x
  | .tup ds, v => ∃ a vs, v = .ref a ∧ SqT K W.G a vs ∧ Rps W ds vs
  | .lst ds, v => ∃ a vs, v = .ref a ∧ W.G a = some (.lst vs) ∧ Rps W ds vs
  | .scr ns, v => ∃ a, v = .ref a ∧ SqL K W.G a (ns.map V.int)
  | .dct ks ds, v => ∃ a vs, v = .ref a ∧ W.G a = some (.dK (ks.zip vs)) ∧ ks.length = ds.length ∧ ks.Nodup ∧ Rps W ds vs
  | .obj c fs ds, v => ∃ a C dx vs, v = .ref a ∧ mg c = some (.ref C) ∧ ClsOk K C fs ∧ W.G a = some (.ins C dx (fs.zip vs)) ∧ fs.length = ds.length ∧ Rps W ds vs
  | .fn f, v => ∃ a, v = .ref a ∧ mg f = some (.ref a) ∧ PySem.W.keepIn K (.ref a) = true
  | .clo l, v => ∃ f o c oc, v = .ref f ∧ Gh.P l f o c oc ∧ W.G f = some o ∧ W.G c = some oc ∧ ∀ i a, Gh.S i = some a → a ≠ f ∧ a ≠ c
  | .mu _, _ => False
def Rps (W : Vw) : List D → List V → Prop
  | [], vs => vs = []
  | d :: ds, vs => ∃ v r, vs = v :: r ∧ Rp W d v ∧ Rps W ds r
end
def Rpa (W : Vw) (μ : List Addr) : D → V → Prop
  | .mu k, v => ∃ a, μ[k]? = some a ∧ v = .ref a
  | d, v => Rp K mg W d v
def Rpas (W : Vw) (μ : List Addr) : List D → List V → Prop
  | [], vs => vs = []
  | d :: ds, vs => ∃ v r, vs = v :: r ∧ Rpa K mg W μ d v ∧ Rpas W μ ds r
end
structure LeW (W W' : Vw) : Prop where
  g : SubG W.G W'.G
theorem LeW.refl (W : Vw) : LeW W W := ⟨SubG.refl _⟩
theorem LeW.trans {A B C : Vw} (x : LeW A B) (y : LeW B C) : LeW A C := ⟨x.g.trans y.g⟩
structure Ex2 (W : Vw) (μ : List Addr) (W' : Vw) (μ' : List Addr) : Prop where
  w : LeW W W'
  m : ∃ r, μ' = μ ++ r
theorem Ex2.refl (W : Vw) (μ : List Addr) : Ex2 W μ W μ := ⟨LeW.refl _, [], by simp⟩
theorem Ex2.trans {A B C : Vw} {a b c : List Addr} (x : Ex2 A a B b) (y : Ex2 B b C c) : Ex2 A a C c := by
  obtain ⟨w1, r1, e1⟩ := x
  obtain ⟨w2, r2, e2⟩ := y
  exact ⟨w1.trans w2, r1 ++ r2, by rw [e2, e1, List.append_assoc]⟩
section
variable {K : PySem.W.Frag} {mg : Str → Option Value}
mutual
theorem Rp.mono {W W' : Vw} (h : LeW W W') : ∀ {d : D} {v : V}, Rp K mg W d v → Rp K mg W' d v
  | .non, _, r => by simp only [Rp] at r ⊢; exact r
  | .bl _, _, r => by simp only [Rp] at r ⊢; exact r
  | .int _, _, r => by simp only [Rp] at r ⊢; exact r
  | .str _, _, r => by simp only [Rp] at r ⊢; exact r
  | .tup ds, _, r => by
    simp only [Rp] at r ⊢
    obtain ⟨a, vs, e, q, r⟩ := r
    exact ⟨a, vs, e, sqT_sub h.g q, Rps.mono h r⟩
  | .lst ds, _, r => by
    simp only [Rp] at r ⊢
    obtain ⟨a, vs, e, q, r⟩ := r
    exact ⟨a, vs, e, h.g _ _ q, Rps.mono h r⟩
  | .scr ns, _, r => by
    simp only [Rp] at r ⊢
    obtain ⟨a, e, q⟩ := r
    exact ⟨a, e, sqL_sub h.g q⟩
  | .dct ks ds, _, r => by
    simp only [Rp] at r ⊢
    obtain ⟨a, vs, e, q, l, n, r⟩ := r
    exact ⟨a, vs, e, h.g _ _ q, l, n, Rps.mono h r⟩
  | .obj c fs ds, _, r => by
    simp only [Rp] at r ⊢
    obtain ⟨a, C, dx, vs, e, m, k, q, l, r⟩ := r
    exact ⟨a, C, dx, vs, e, m, k, h.g _ _ q, l, Rps.mono h r⟩
  | .fn f, _, r => by simp only [Rp] at r ⊢; exact r
  | .clo l, _, r => by
    simp only [Rp] at r ⊢
    obtain ⟨f, o, c, oc, e, p, g, gc, n⟩ := r
    exact ⟨f, o, c, oc, e, p, h.g _ _ g, h.g _ _ gc, n⟩
  | .mu _, _, r => by simp only [Rp] at r
theorem Rps.mono {W W' : Vw} (h : LeW W W') : ∀ {ds : List D} {vs : List V}, Rps K mg W ds vs → Rps K mg W' ds vs
  | [], _, r => by simp only [Rps] at r ⊢; exact r
  | d :: ds, _, r => by
    simp only [Rps] at r ⊢
    obtain ⟨v, q, e, r1, r2⟩ := r
    exact ⟨v, q, e, Rp.mono h r1, Rps.mono h r2⟩
end
theorem Rp.a {W : Vw} {μ : List Addr} {d : D} {v : V} (h : Rp K mg W d v) : Rpa K mg W μ d v := by
  cases d <;> first | exact h | (simp only [Rp] at h)
theorem Rpa.p {W : Vw} {μ : List Addr} {d : D} {v : V} (h : Rpa K mg W μ d v) (n : notMut d = true) : Rp K mg W d v := by
  cases d <;> first | exact h | (simp [notMut] at n)
theorem get_app {μ r : List Addr} {k : Nat} {a : Addr} (h : μ[k]? = some a) : (μ ++ r)[k]? = some a := by
  have l := (List.getElem?_eq_some_iff.mp h).1
  rw [List.getElem?_append_left l]
  exact h
theorem Rpa.mono {W W' : Vw} {μ μ' : List Addr} (x : Ex2 W μ W' μ') {d : D} {v : V} (h : Rpa K mg W μ d v) : Rpa K mg W' μ' d v := by
  obtain ⟨w, r, e⟩ := x
  cases d with
  | mu k =>
    obtain ⟨a, h1, h2⟩ := h
    exact ⟨a, by rw [e]; exact get_app h1, h2⟩
  | _ => exact Rp.mono w h
theorem Rpas.mono {W W' : Vw} {μ μ' : List Addr} (x : Ex2 W μ W' μ') : ∀ {ds : List D} {vs : List V}, Rpas K mg W μ ds vs → Rpas K mg W' μ' ds vs
  | [], _, h => h
  | _ :: _, _, ⟨v, r, e, h1, h2⟩ => ⟨v, r, e, h1.mono x, Rpas.mono x h2⟩
theorem Rps.as {W : Vw} {μ : List Addr} : ∀ {ds : List D} {vs : List V}, Rps K mg W ds vs → Rpas K mg W μ ds vs
  | [], _, h => by simp only [Rps] at h; exact h
  | _ :: _, _, h => by
    simp only [Rps] at h
    obtain ⟨v, r, e, h1, h2⟩ := h
    exact ⟨v, r, e, h1.a, h2.as⟩
theorem Rpas.p {W : Vw} {μ : List Addr} : ∀ {ds : List D} {vs : List V}, Rpas K mg W μ ds vs → pureA ds = true → Rps K mg W ds vs
  | [], _, h, _ => by simp only [Rps]; exact h
  | d :: ds, _, h, n => by
    obtain ⟨v, r, e, h1, h2⟩ := h
    have n' : notMut d = true ∧ pureA ds = true := by simpa [pureA] using n
    simp only [Rps]
    exact ⟨v, r, e, h1.p n'.1, h2.p n'.2⟩
theorem Rps.length {W : Vw} : ∀ {ds : List D} {vs : List V}, Rps K mg W ds vs → ds.length = vs.length
  | [], _, h => by simp only [Rps] at h; subst h; rfl
  | _ :: _, _, h => by
    simp only [Rps] at h
    obtain ⟨v, r, e, _, h2⟩ := h
    rw [e, List.length_cons, List.length_cons, h2.length]
theorem Rpas.length {W : Vw} {μ : List Addr} : ∀ {ds : List D} {vs : List V}, Rpas K mg W μ ds vs → ds.length = vs.length
  | [], vs, h => by
    have h' : vs = [] := h
    subst h'
    rfl
  | _ :: _, _, ⟨v, r, e, _, h2⟩ => by rw [e, List.length_cons, List.length_cons, h2.length]
theorem Rps.get {W : Vw} : ∀ {ds : List D} {vs : List V} {i : Nat} {d : D}, Rps K mg W ds vs → ds[i]? = some d → ∃ v, vs[i]? = some v ∧ Rp K mg W d v
  | [], _, _, _, _, e => by simp at e
  | _ :: _, _, 0, _, h, e => by
    simp only [Rps] at h
    obtain ⟨v, r, e1, h1, _⟩ := h
    simp at e
    subst e e1
    exact ⟨v, rfl, h1⟩
  | _ :: _, _, i + 1, _, h, e => by
    simp only [Rps] at h
    obtain ⟨v, r, e1, _, h2⟩ := h
    subst e1
    obtain ⟨u, h3, h4⟩ := h2.get (i := i) (by simpa using e)
    exact ⟨u, by simpa using h3, h4⟩
theorem Rps.app {W : Vw} : ∀ {ds es : List D} {vs us : List V}, Rps K mg W ds vs → Rps K mg W es us → Rps K mg W (ds ++ es) (vs ++ us)
  | [], _, _, _, h, k => by simp only [Rps] at h; subst h; exact k
  | _ :: _, _, _, _, h, k => by
    simp only [Rps] at h
    obtain ⟨v, r, e1, h1, h2⟩ := h
    subst e1
    simp only [List.cons_append, Rps]
    exact ⟨v, _, rfl, h1, h2.app k⟩
theorem Rps.take {W : Vw} : ∀ (n : Nat) {ds : List D} {vs : List V}, Rps K mg W ds vs → Rps K mg W (ds.take n) (vs.take n)
  | 0, _, _, h => by simp [Rps]
  | n + 1, [], _, h => by simp only [Rps] at h; subst h; simp [Rps]
  | n + 1, _ :: _, _, h => by
    simp only [Rps] at h
    obtain ⟨v, r, e1, h1, h2⟩ := h
    subst e1
    simp only [List.take_succ_cons, Rps]
    exact ⟨v, _, rfl, h1, h2.take n⟩
theorem Rps.drop {W : Vw} : ∀ (n : Nat) {ds : List D} {vs : List V}, Rps K mg W ds vs → Rps K mg W (ds.drop n) (vs.drop n)
  | 0, _, _, h => h
  | n + 1, [], _, h => by simp only [Rps] at h; subst h; simp [Rps]
  | n + 1, _ :: _, _, h => by
    simp only [Rps] at h
    obtain ⟨v, r, e1, h1, h2⟩ := h
    subst e1
    simp only [List.drop_succ_cons]
    exact h2.drop n
theorem Rps.set {W : Vw} {d : D} {v : V} (q : Rp K mg W d v) : ∀ (i : Nat) {ds : List D} {vs : List V}, Rps K mg W ds vs → Rps K mg W (ds.set i d) (vs.set i v)
  | _, [], _, h => by simp only [Rps] at h; subst h; simp [Rps]
  | 0, _ :: _, _, h => by
    simp only [Rps] at h
    obtain ⟨u, r, e1, _, h2⟩ := h
    subst e1
    simp only [List.set_cons_zero, Rps]
    exact ⟨v, _, rfl, q, h2⟩
  | i + 1, _ :: _, _, h => by
    simp only [Rps] at h
    obtain ⟨u, r, e1, h1, h2⟩ := h
    subst e1
    simp only [List.set_cons_succ, Rps]
    exact ⟨u, _, rfl, h1, h2.set q i⟩
theorem Rps.erase {W : Vw} : ∀ (i : Nat) {ds : List D} {vs : List V}, Rps K mg W ds vs → Rps K mg W (ds.eraseIdx i) (vs.eraseIdx i)
  | _, [], _, h => by simp only [Rps] at h; subst h; simp [Rps]
  | 0, _ :: _, _, h => by
    simp only [Rps] at h
    obtain ⟨u, r, e1, _, h2⟩ := h
    subst e1
    simpa using h2
  | i + 1, _ :: _, _, h => by
    simp only [Rps] at h
    obtain ⟨u, r, e1, h1, h2⟩ := h
    subst e1
    simp only [List.eraseIdx_cons_succ, Rps]
    exact ⟨u, _, rfl, h1, h2.erase i⟩
theorem Rps.nil {W : Vw} : Rps K mg W [] [] := by simp [Rps]
theorem Rps.cons {W : Vw} {d : D} {v : V} {ds : List D} {vs : List V} (h : Rp K mg W d v) (t : Rps K mg W ds vs) : Rps K mg W (d :: ds) (v :: vs) := by
  simp only [Rps]
  exact ⟨v, vs, rfl, h, t⟩
theorem Rps.rep {W : Vw} {ds : List D} {vs : List V} (h : Rps K mg W ds vs) : ∀ k : Nat, Rps K mg W (List.replicate k ds).flatten (List.replicate k vs).flatten
  | 0 => by simp [Rps]
  | k + 1 => by
    simp only [List.replicate_succ, List.flatten_cons]
    exact h.app (h.rep k)
end

/-! ### the state -/
def MO.live : MO → Bool
  | .fr _ => false
  | .env _ _ => false
  | _ => true
section
variable (K : PySem.W.Frag) (mg : Str → Option Value)
/-- the cell at a is the object o -/
def cellO (a : Addr) (o : Obj) : HO := .ext fun h => h.get? a = some o
/-- the captured slots and what their cells hold -/
def EnvR (W : Vw) : List Nat → List D → Prop
  | [], [] => True
  | i :: is, d :: ds => (∃ a o u v, Gh.S i = some a ∧ W.G a = some (cellO a o) ∧ o.data = .cell (some u) ∧ RelV v u ∧ Rp K mg W d v) ∧ EnvR W is ds
  | _, _ => False
def MoR (W : Vw) (H : Hp) (oa : Option Addr) : MO → Prop
  | .env is xs => EnvR K mg W is xs
  | .lst ds => ∃ a vs, oa = some a ∧ H a = some (.lst vs) ∧ W.G a = none ∧ Rps K mg W ds vs
  | .dct ks ds => ∃ a vs, oa = some a ∧ H a = some (.dK (ks.zip vs)) ∧ W.G a = none ∧ ks.length = ds.length ∧ ks.Nodup ∧ Rps K mg W ds vs
  | .fr d => ∃ a, oa = some a ∧ Rp K mg W d (.ref a)
structure SA (FF : List (Addr × HO)) (H : Hp) (W : Vw) (μ : List Addr) (st : Sto) : Prop where
  sub : SubG W.G H
  len : μ.length = st.length
  sto : ∀ (k : Nat) (o : MO), st[k]? = some o → MoR K mg W H μ[k]? o
  inj : ∀ (j k : Nat) (o o' : MO) (a : Addr), st[j]? = some o → st[k]? = some o' → o.live = true → o'.live = true → μ[j]? = some a → μ[k]? = some a → j = k
  ff : ∀ p ∈ FF, H p.1 = some p.2 ∧ W.G p.1 = none ∧ ∀ (k : Nat) (o : MO), st[k]? = some o → o.live = true → μ[k]? ≠ some p.1
/-- the slots -/
structure RE (W : Vw) (μ : List Addr) (σ : L2.St) (env : En) : Prop where
  len : env.length ≤ σ.length
  at_ : ∀ (i : Nat) (d : D), env[i]? = some (some d) → ∃ v, σ[i]? = some (some v) ∧ Rpa K mg W μ d v
end
section
variable {K : PySem.W.Frag} {mg : Str → Option Value} {FF : List (Addr × HO)} {H : Hp} {W W' : Vw} {μ μ' : List Addr} {st : Sto} {σ : L2.St} {env : En}
theorem RE.mono (x : Ex2 W μ W' μ') (h : RE K mg W μ σ env) : RE K mg W' μ' σ env := ⟨h.len, fun i d e => by
  obtain ⟨v, h1, h2⟩ := h.at_ i d e
  exact ⟨v, h1, h2.mono x⟩⟩
theorem RE.set {i : Nat} {d : D} {v : V} (h : RE K mg W μ σ env) (r : Rpa K mg W μ d v) : RE K mg W μ (σ.set i (some v)) (setE env i d) := by
  refine ⟨by unfold setE; rw [List.length_set, List.length_set]; exact h.len, fun j d' e => ?_⟩
  unfold setE at e
  by_cases hj : i = j
  · subst hj
    have hl : i < env.length := by
      have := (List.getElem?_eq_some_iff.mp e).1
      simpa using this
    rw [List.getElem?_set_self hl] at e
    cases e
    exact ⟨v, by rw [List.getElem?_set_self (Nat.lt_of_lt_of_le hl h.len)], r⟩
  · rw [List.getElem?_set_ne hj] at e
    obtain ⟨u, h1, h2⟩ := h.at_ j d' e
    exact ⟨u, by rw [List.getElem?_set_ne hj]; exact h1, h2⟩
theorem EnvR.mono (w : LeW W W') : ∀ {is : List Nat} {ds : List D}, EnvR K mg W is ds → EnvR K mg W' is ds
  | [], [], _ => True.intro
  | [], _ :: _, h => h.elim
  | _ :: _, [], h => h.elim
  | i :: is, d :: ds, ⟨⟨a, o, u, v, h1, h2, h3, h4, h5⟩, t⟩ => ⟨⟨a, o, u, v, h1, w.g _ _ h2, h3, h4, h5.mono w⟩, EnvR.mono w t⟩
theorem MoR.addr {o : MO} {oa : Option Addr} (h : MoR K mg W H oa o) (l : o.live = true) : ∃ a u, oa = some a ∧ H a = some u ∧ W.G a = none := by
  cases o with
  | lst ds =>
    obtain ⟨a, vs, e, h1, h2, _⟩ := h
    exact ⟨a, _, e, h1, h2⟩
  | dct ks ds =>
    obtain ⟨a, vs, e, h1, h2, _⟩ := h
    exact ⟨a, _, e, h1, h2⟩
  | fr d => cases l
  | env is xs => cases l
theorem MoR.mv {o : MO} {oa : Option Addr} {H' : Hp} (h : MoR K mg W H oa o) (w : LeW W W') (k : ∀ a u, oa = some a → H a = some u → W.G a = none → H' a = some u ∧ W'.G a = none) : MoR K mg W' H' oa o := by
  cases o with
  | lst ds =>
    obtain ⟨a, vs, e, h1, h2, h3⟩ := h
    obtain ⟨k1, k2⟩ := k a _ e h1 h2
    exact ⟨a, vs, e, k1, k2, h3.mono w⟩
  | dct ks ds =>
    obtain ⟨a, vs, e, h1, h2, h3, h4, h5⟩ := h
    obtain ⟨k1, k2⟩ := k a _ e h1 h2
    exact ⟨a, vs, e, k1, k2, h3, h4, h5.mono w⟩
  | fr d =>
    obtain ⟨a, e, h⟩ := h
    exact ⟨a, e, h.mono w⟩
  | env is xs => exact EnvR.mono w h
theorem MoR.fz {o : MO} {oa : Option Addr} {H' : Hp} (h : MoR K mg W H oa o) (l : o.live = false) (w : LeW W W') : MoR K mg W' H' oa o := by
  cases o with
  | fr d =>
    obtain ⟨a, e, h⟩ := h
    exact ⟨a, e, h.mono w⟩
  | env is xs => exact EnvR.mono w h
  | _ => cases l
/-- a new object at p, tracked alone -/
theorem SA.fresh {p : Addr} {o : HO} (S : SA K mg FF H W μ st) (hp : H p = none) : SA K mg FF (upd H p o) W μ st where
  sub := fun a u h => by
    have h1 := S.sub a u h
    rw [upd_ne (ne_of_none h1 hp)]
    exact h1
  len := S.len
  sto := fun k u e => (S.sto k u e).mv (LeW.refl _) fun a v _ h1 h2 => ⟨by rw [upd_ne (ne_of_none h1 hp)]; exact h1, h2⟩
  inj := S.inj
  ff := fun p' h => by
    obtain ⟨h1, h2, h3⟩ := S.ff p' h
    exact ⟨by rw [upd_ne (ne_of_none h1 hp)]; exact h1, h2, h3⟩
theorem SA.gnone {p : Addr} (S : SA K mg FF H W μ st) (hp : H p = none) : W.G p = none := by
  cases e : W.G p with
  | none => rfl
  | some u =>
    have := S.sub p u e
    rw [hp] at this
    cases this
theorem SA.nmu {p : Addr} (S : SA K mg FF H W μ st) (hp : H p = none) {k : Nat} {o : MO} (e : st[k]? = some o) (l : o.live = true) : μ[k]? ≠ some p := fun z => by
  obtain ⟨a, u, h1, h2, _⟩ := (S.sto k o e).addr l
  rw [z] at h1
  cases h1
  rw [hp] at h2
  cases h2
def Vw.put (W : Vw) (p : Addr) (o : HO) : Vw := ⟨upd W.G p o⟩
theorem LeW.put {p : Addr} {o : HO} (h : W.G p = none) : LeW W (W.put p o) := ⟨fun a u e => by
  show upd W.G p o a = some u
  rw [upd_ne (ne_of_none e h)]
  exact e⟩
/-- a new object that stays as it is -/
theorem SA.put {p : Addr} {o : HO} (S : SA K mg FF H W μ st) (hp : H p = none) : SA K mg FF (upd H p o) (W.put p o) μ st := by
  have g := S.gnone hp
  refine ⟨fun a u h => ?_, S.len, fun k u e => (S.sto k u e).mv (LeW.put g) fun a v ea h1 h2 => ?_, S.inj, fun p' h => ?_⟩
  · have h' : upd W.G p o a = some u := h
    by_cases q : a = p
    · subst q
      rw [upd_same] at h' ⊢
      exact h'
    · rw [upd_ne q] at h' ⊢
      exact S.sub a u h'
  · have ne := ne_of_none h1 hp
    exact ⟨by rw [upd_ne ne]; exact h1, by show upd W.G p o a = none; rw [upd_ne ne]; exact h2⟩
  · obtain ⟨h1, h2, h3⟩ := S.ff p' h
    have ne := ne_of_none h1 hp
    exact ⟨by rw [upd_ne ne]; exact h1, by show upd W.G p o p'.1 = none; rw [upd_ne ne]; exact h2, h3⟩
theorem get_snoc {α : Type} {l : List α} {x : α} {k : Nat} {y : α} (h : (l ++ [x])[k]? = some y) : (k < l.length ∧ l[k]? = some y) ∨ (k = l.length ∧ y = x) := by
  by_cases hk : k < l.length
  · rw [List.getElem?_append_left hk] at h
    exact .inl ⟨hk, h⟩
  · rw [List.getElem?_append_right (by omega)] at h
    have : k - l.length = 0 := by
      have := (List.getElem?_eq_some_iff.mp h).1
      simp at this
      omega
    rw [this] at h
    simp at h
    exact .inr ⟨by omega, h.symm⟩
/-- a new object that may change -/
theorem SA.new {p : Addr} {o : HO} {mo : MO} (S : SA K mg FF H W μ st) (hp : H p = none) (hm : MoR K mg W (upd H p o) (some p) mo) : SA K mg FF (upd H p o) W (μ ++ [p]) (st ++ [mo]) := by
  have S1 := S.fresh (o := o) hp
  have hl : ∀ {k : Nat}, k < st.length → (μ ++ [p])[k]? = μ[k]? := fun {k} hk => List.getElem?_append_left (by rw [S.len]; exact hk)
  have he : (μ ++ [p])[st.length]? = some p := by rw [← S.len]; simp
  refine ⟨S1.sub, by rw [List.length_append, List.length_append, S.len]; rfl, fun k u e => ?_, fun j k u u' a e1 e2 l1 l2 m1 m2 => ?_, fun p' h => ?_⟩
  · rcases get_snoc e with ⟨hk, e⟩ | ⟨hk, e⟩
    · rw [hl hk]
      exact S1.sto k u e
    · rw [hk, he, e]
      exact hm
  · rcases get_snoc e1 with ⟨hj, e1⟩ | ⟨hj, e1⟩ <;> rcases get_snoc e2 with ⟨hk, e2⟩ | ⟨hk, e2⟩
    · rw [hl hj] at m1
      rw [hl hk] at m2
      exact S.inj j k u u' a e1 e2 l1 l2 m1 m2
    · subst hk
      rw [he] at m2
      cases m2
      rw [hl hj] at m1
      exact absurd m1 (S.nmu hp e1 l1)
    · subst hj
      rw [he] at m1
      cases m1
      rw [hl hk] at m2
      exact absurd m2 (S.nmu hp e2 l2)
    · omega
  · obtain ⟨h1, h2, h3⟩ := S1.ff p' h
    refine ⟨h1, h2, fun k u e l => ?_⟩
    rcases get_snoc e with ⟨hk, e⟩ | ⟨hk, e⟩
    · rw [hl hk]
      exact h3 k u e l
    · subst hk
      rw [he]
      intro z
      cases z
      obtain ⟨q1, _, _⟩ := S.ff p' h
      rw [hp] at q1
      cases q1
theorem get_set {α : Type} {l : List α} {i k : Nat} {x y : α} (h : (l.set i x)[k]? = some y) : (k = i ∧ y = x ∧ i < l.length) ∨ (k ≠ i ∧ l[k]? = some y) := by
  by_cases hk : i = k
  · subst hk
    have hl : i < l.length := by
      have := (List.getElem?_eq_some_iff.mp h).1
      simpa using this
    rw [List.getElem?_set_self hl] at h
    cases h
    exact .inl ⟨rfl, rfl, hl⟩
  · rw [List.getElem?_set_ne hk] at h
    exact .inr ⟨fun e => hk e.symm, h⟩
/-- a changing object is changed -/
theorem SA.write {k : Nat} {a : Addr} {o : HO} {mo mo' : MO} (S : SA K mg FF H W μ st) (e : st[k]? = some mo) (l : mo.live = true) (ea : μ[k]? = some a) (hm : MoR K mg W (upd H a o) (some a) mo') : SA K mg FF (upd H a o) W μ (st.set k mo') := by
  obtain ⟨a', u, q1, q2, q3⟩ := (S.sto k mo e).addr l
  rw [ea] at q1
  cases q1
  refine ⟨fun b v h => ?_, by rw [List.length_set]; exact S.len, fun j u' e' => ?_, fun i j u1 u2 b e1 e2 l1 l2 m1 m2 => ?_, fun p' h => ?_⟩
  · have ne : b ≠ a := fun z => by
      rw [z, q3] at h
      cases h
    rw [upd_ne ne]
    exact S.sub b v h
  · rcases get_set e' with ⟨rfl, rfl, _⟩ | ⟨hj, e'⟩
    · rw [ea]
      exact hm
    · cases hl : u'.live with
      | false =>
        exact (S.sto j u' e').fz hl (LeW.refl _)
      | true =>
        refine (S.sto j u' e').mv (LeW.refl _) fun b v eb h1 h2 => ⟨?_, h2⟩
        rw [upd_ne]
        · exact h1
        · intro z
          subst z
          exact hj (S.inj j k u' mo _ e' e hl l eb ea)
  · have lift : ∀ {i : Nat} {u1 : MO}, (st.set k mo')[i]? = some u1 → u1.live = true → ∃ u2, st[i]? = some u2 ∧ u2.live = true := fun {i u1} e1 l1 => by
      rcases get_set e1 with ⟨rfl, _, _⟩ | ⟨_, e1⟩
      · exact ⟨mo, e, l⟩
      · exact ⟨u1, e1, l1⟩
    obtain ⟨v1, f1, g1⟩ := lift e1 l1
    obtain ⟨v2, f2, g2⟩ := lift e2 l2
    exact S.inj i j v1 v2 b f1 f2 g1 g2 m1 m2
  · obtain ⟨h1, h2, h3⟩ := S.ff p' h
    have ne : p'.1 ≠ a := fun z => h3 k mo e l (by rw [z]; exact ea)
    refine ⟨by rw [upd_ne ne]; exact h1, h2, fun i u1 e1 l1 => ?_⟩
    rcases get_set e1 with ⟨rfl, _, _⟩ | ⟨_, e1⟩
    · exact h3 _ mo e l
    · exact h3 i u1 e1 l1
/-- a changing object stays as it is from now on -/
theorem SA.freeze {k : Nat} {a : Addr} {u : HO} {mo : MO} {d : D} (S : SA K mg FF H W μ st) (e : st[k]? = some mo) (l : mo.live = true) (ea : μ[k]? = some a) (hu : H a = some u) (hd : Rp K mg (W.put a u) d (.ref a)) : SA K mg FF H (W.put a u) μ (st.set k (.fr d)) := by
  obtain ⟨a', u', q1, q2, q3⟩ := (S.sto k mo e).addr l
  rw [ea] at q1
  cases q1
  refine ⟨fun b v h => ?_, by rw [List.length_set]; exact S.len, fun j u' e' => ?_, fun i j u1 u2 b e1 e2 l1 l2 m1 m2 => ?_, fun p' h => ?_⟩
  · have h' : upd W.G a u b = some v := h
    by_cases z : b = a
    · subst z
      rw [upd_same] at h'
      cases h'
      exact hu
    · rw [upd_ne z] at h'
      exact S.sub b v h'
  · rcases get_set e' with ⟨rfl, rfl, _⟩ | ⟨hj, e'⟩
    · exact ⟨a, ea, hd⟩
    · cases hl : u'.live with
      | false =>
        exact (S.sto j u' e').fz hl (LeW.put q3)
      | true =>
        refine (S.sto j u' e').mv (LeW.put q3) fun b v eb h1 h2 => ⟨h1, ?_⟩
        show upd W.G a u b = none
        rw [upd_ne]
        · exact h2
        · intro z
          subst z
          exact hj (S.inj j k u' mo _ e' e hl l eb ea)
  · rcases get_set e1 with ⟨_, rfl, _⟩ | ⟨_, e1⟩
    · cases l1
    · rcases get_set e2 with ⟨_, rfl, _⟩ | ⟨_, e2⟩
      · cases l2
      · exact S.inj i j u1 u2 b e1 e2 l1 l2 m1 m2
  · obtain ⟨h1, h2, h3⟩ := S.ff p' h
    have ne : p'.1 ≠ a := fun z => h3 k mo e l (by rw [z]; exact ea)
    refine ⟨h1, by show upd W.G a u p'.1 = none; rw [upd_ne ne]; exact h2, fun i u1 e1 l1 => ?_⟩
    rcases get_set e1 with ⟨_, rfl, _⟩ | ⟨_, e1⟩
    · cases l1
    · exact h3 i u1 e1 l1
/-- objects behind n are forgotten -/
theorem SA.cut (S : SA K mg FF H W μ st) (n : Nat) : SA K mg FF H W (μ.take n) (st.take n) := by
  have at_ : ∀ {α : Type} {l : List α} {k : Nat} {x : α}, (l.take n)[k]? = some x → k < n ∧ l[k]? = some x := fun {α l k x} h => by
    by_cases hk : k < n
    · rw [List.getElem?_take_of_lt hk] at h
      exact ⟨hk, h⟩
    · rw [List.getElem?_eq_none (by simp; omega)] at h
      cases h
  refine ⟨S.sub, by rw [List.length_take, List.length_take, S.len], fun k o e => ?_, fun j k o o' a e1 e2 l1 l2 m1 m2 => S.inj j k o o' a (at_ e1).2 (at_ e2).2 l1 l2 (at_ m1).2 (at_ m2).2, fun p' h => ?_⟩
  · obtain ⟨hk, e⟩ := at_ e
    rw [List.getElem?_take_of_lt hk]
    exact S.sto k o e
  · obtain ⟨h1, h2, h3⟩ := S.ff p' h
    refine ⟨h1, h2, fun k o e l z => ?_⟩
    obtain ⟨hk, e⟩ := at_ e
    exact h3 k o e l (at_ z).2
end
end Ev
end
section
set_option Elab.async false
set_option linter.all false
set_option maxRecDepth 100000
set_option maxHeartbeats 1000003
namespace Ev
open PySem PySem.Spec PyProof.Rows L2
variable [Gh]

/-! ### readings by the evaluator -/
abbrev Rl (α β : Type) := Vw → List Addr → α → β → Prop
section
variable (K : PySem.W.Frag) (mg : Str → Option Value)
/-- an exception's class and dict -/
def ExR (W : Vw) (x : Ex) (cls : Value) (dd : Option Addr) : Prop :=
  ∃ (C a : Addr) (fs : List (Str × V)), cls = .ref C ∧ mg x.c = some (.ref C) ∧ dd = some a ∧ W.G a = some (.xd fs) ∧ ∀ f d, lkF x.fs x.xs f = some d → ∃ v, fs.lookup f = some v ∧ Rp K mg W d v
variable (WE : WX)
def Pt {α β : Type} (rel : Rl α β) (FF : List (Addr × HO)) (σ : L2.St) (W : Vw) (μ : List Addr) (r : R α) (Q : β → Hp → Prop) : Prop :=
  match r with
  | .ok d st' => ∀ v H' W' μ', SA K mg FF H' W' μ' st' → Ex2 W μ W' μ' → rel W' μ' d v → Q v H'
  | .exc x st' => ∀ H' W' μ' cls dd, SA K mg FF H' W' μ' st' → Ex2 W μ W' μ' → ExR K mg W' x cls dd → WE cls dd σ H'
  | .no => False
def rd {α β : Type} (rel : Rl α β) (ev : En → M α) : L2.St → Hp → (β → Hp → Prop) → Prop := fun σ H Q =>
  ∃ FF env st W μ, SA K mg FF H W μ st ∧ RE K mg W μ σ env ∧ Pt K mg WE rel FF σ W μ (ev env st) Q
def relA : Rl D V := fun W μ d v => Rpa K mg W μ d v
def relL : Rl (List D) (List V) := fun W μ d v => Rpas K mg W μ d v
def relB : Rl Bool Bool := fun _ _ b c => b = c
end
section
variable {K : PySem.W.Frag} {mg : Str → Option Value} {WE : WX} {α β γ δ : Type} {rel : Rl α β} {rel2 : Rl γ δ} {FF : List (Addr × HO)} {σ : L2.St} {W W1 : Vw} {μ μ1 : List Addr} {H : Hp} {st : Sto} {env : En}
theorem Pt.mono {r : R α} {Q : β → Hp → Prop} (x : Ex2 W μ W1 μ1) (h : Pt K mg WE rel FF σ W μ r Q) : Pt K mg WE rel FF σ W1 μ1 r Q := by
  cases r with
  | ok d st' => exact fun v H' W' μ' s e => h v H' W' μ' s (x.trans e)
  | exc y st' => exact fun H' W' μ' cls dd s e => h H' W' μ' cls dd s (x.trans e)
  | no => exact h
theorem Pt.imp {r : R α} {Q Q' : β → Hp → Prop} (h : Pt K mg WE rel FF σ W μ r Q) (q : ∀ v H, Q v H → Q' v H) : Pt K mg WE rel FF σ W μ r Q' := by
  cases r with
  | ok d st' => exact fun v H' W' μ' s e k => q _ _ (h v H' W' μ' s e k)
  | exc y st' => exact h
  | no => exact h
/-- one step, then the rest -/
theorem rd_bnd {m : En → M α} {f : En → α → M γ} {Q : δ → Hp → Prop} (h : rd K mg WE rel2 (fun e => bnd (m e) (f e)) σ H Q) :
    rd K mg WE rel m σ H (fun b H1 => ∃ FF env st a W μ, SA K mg FF H1 W μ st ∧ RE K mg W μ σ env ∧ rel W μ a b ∧ Pt K mg WE rel2 FF σ W μ (f env a st) Q) := by
  obtain ⟨FF, env, st, W, μ, S, E, p⟩ := h
  refine ⟨FF, env, st, W, μ, S, E, ?_⟩
  have p' : Pt K mg WE rel2 FF σ W μ (match m env st with
    | .ok a s' => f env a s'
    | .exc x s' => .exc x s'
    | .no => .no) Q := p
  cases e : m env st with
  | ok a st1 =>
    rw [e] at p'
    exact fun b H1 W1 μ1 S1 x r => ⟨FF, env, st1, a, W1, μ1, S1, E.mono x, r, Pt.mono x p'⟩
  | exc y st1 =>
    rw [e] at p'
    exact p'
  | no =>
    rw [e] at p'
    exact p'
theorem rd.imp {m : En → M α} {Q Q' : β → Hp → Prop} (h : rd K mg WE rel m σ H Q) (q : ∀ v H, Q v H → Q' v H) : rd K mg WE rel m σ H Q' := by
  obtain ⟨FF, env, st, W, μ, S, E, p⟩ := h
  exact ⟨FF, env, st, W, μ, S, E, p.imp q⟩
/-- two values, then the rest -/
theorem rd_bnd2 {α2 β2 : Type} {relX : Rl α2 β2} (mono : ∀ {W W' μ μ' a b}, Ex2 W μ W' μ' → rel W μ a b → rel W' μ' a b) {m : En → M α} {m2 : En → M α2} {f : En → α → α2 → M γ} {Q : δ → Hp → Prop}
    (h : rd K mg WE rel2 (fun e => bnd (m e) fun x => bnd (m2 e) fun y => f e x y) σ H Q) :
    rd K mg WE rel m σ H (fun b H1 => rd K mg WE relX m2 σ H1 fun c H2 => ∃ FF env st x y W μ, SA K mg FF H2 W μ st ∧ RE K mg W μ σ env ∧ rel W μ x b ∧ relX W μ y c ∧ Pt K mg WE rel2 FF σ W μ (f env x y st) Q) := by
  refine (rd_bnd (f := fun e x => bnd (m2 e) fun y => f e x y) h).imp ?_
  rintro b H1 ⟨FF, env, st, a, W, μ, S, E, r, p⟩
  refine ⟨FF, env, st, W, μ, S, E, ?_⟩
  have p' : Pt K mg WE rel2 FF σ W μ (match m2 env st with
    | .ok y s' => f env a y s'
    | .exc x s' => .exc x s'
    | .no => .no) Q := p
  cases e : m2 env st with
  | ok y st1 =>
    rw [e] at p'
    exact fun c H2 W2 μ2 S2 x r2 => ⟨FF, env, st1, a, y, W2, μ2, S2, E.mono x, mono x r, r2, Pt.mono x p'⟩
  | exc y st1 =>
    rw [e] at p'
    exact p'
  | no =>
    rw [e] at p'
    exact p'
theorem relA_mono {W W' : Vw} {μ μ' : List Addr} {a : D} {b : V} (x : Ex2 W μ W' μ') (h : relA K mg W μ a b) : relA K mg W' μ' a b := Rpa.mono x h
theorem relL_mono {W W' : Vw} {μ μ' : List Addr} {a : List D} {b : List V} (x : Ex2 W μ W' μ') (h : relL K mg W μ a b) : relL K mg W' μ' a b := Rpas.mono x h
end
theorem _root_.L2.PE.imp {X : Cx} {e : Expr} {t t' : TE} (p : PE X e t) (h : ∀ σ H Q, t' σ H Q → t σ H Q) : PE X e t' := ⟨fun pins s σ H Q I q => p.run pins s σ H Q I (h _ _ _ q)⟩
theorem _root_.L2.PT.imp {X : Cx} {e : Expr} {t t' : TT} (p : PT X e t) (h : ∀ σ H Q, t' σ H Q → t σ H Q) : PT X e t' := ⟨fun pins s σ H Q I q => p.run pins s σ H Q I (h _ _ _ q)⟩
theorem _root_.L2.PW.imp {X : Cx} {e : Expr} {t t' : TT} (p : PW X e t) (h : ∀ σ H Q, t' σ H Q → t σ H Q) : PW X e t' := ⟨fun wh pins s σ H Q I q => p.run wh pins s σ H Q I (h _ _ _ q)⟩
theorem _root_.L2.PA.imp {X : Cx} {e : List Expr} {t t' : TA} (p : PA X e t) (h : ∀ σ H Q, t' σ H Q → t σ H Q) : PA X e t' := ⟨fun pos pins s σ H Q I q => p.run pos pins s σ H Q I (h _ _ _ q)⟩

def Vw.at (W : Vw) (H : Hp) : Vw := ⟨H⟩
section
variable {K : PySem.W.Frag} {mg : Str → Option Value} {FF : List (Addr × HO)} {H : Hp} {W : Vw} {μ : List Addr} {st : Sto} {d : D} {x : V}
theorem SA.le (S : SA K mg FF H W μ st) : LeW W (W.at H) := ⟨S.sub⟩
/-- what an object holds at the moment: the object itself as it is now, its items plain -/
def Rpt (K : PySem.W.Frag) (mg : Str → Option Value) (H : Hp) (W : Vw) : D → V → Prop
  | .lst ds, v => ∃ a vs, v = .ref a ∧ H a = some (.lst vs) ∧ Rps K mg W ds vs
  | .dct ks ds, v => ∃ a vs, v = .ref a ∧ H a = some (.dK (ks.zip vs)) ∧ ks.length = ds.length ∧ ks.Nodup ∧ Rps K mg W ds vs
  | d, v => Rp K mg W d v
theorem Rpt.of (s : SubG W.G H) (r : Rp K mg W d x) : Rpt K mg H W d x := by
  cases d with
  | lst ds =>
    simp only [Rp] at r
    obtain ⟨a, vs, e, q, r⟩ := r
    exact ⟨a, vs, e, s _ _ q, r⟩
  | dct ks ds =>
    simp only [Rp] at r
    obtain ⟨a, vs, e, q, r⟩ := r
    exact ⟨a, vs, e, s _ _ q, r⟩
  | _ => exact r
theorem Rpt.at (l : LeW W (W.at H)) (r : Rpt K mg H W d x) : Rp K mg (W.at H) d x := by
  cases d with
  | lst ds =>
    obtain ⟨a, vs, e, q, r⟩ := r
    simp only [Rp]
    exact ⟨a, vs, e, q, r.mono l⟩
  | dct ks ds =>
    obtain ⟨a, vs, e, q, r1, r2, r3⟩ := r
    simp only [Rp]
    exact ⟨a, vs, e, q, r1, r2, r3.mono l⟩
  | _ => exact Rp.mono l r
theorem SA.tt (S : SA K mg FF H W μ st) (r : Rpa K mg W μ d x) (n : notMut (thD d st) = true) : Rpt K mg H W (thD d st) x := by
  cases d with
  | mu k =>
    obtain ⟨a, ea, rfl⟩ := r
    simp only [thD] at n ⊢
    cases e : st[k]? with
    | none => rw [e] at n; cases n
    | some o =>
      have q := S.sto k o e
      cases o with
      | lst xs =>
        obtain ⟨a', vs, q1, q2, q3, q4⟩ := q
        rw [ea] at q1
        cases q1
        exact ⟨a, vs, rfl, q2, q4⟩
      | dct ks xs =>
        obtain ⟨a', vs, q1, q2, q3, q4, q5, q6⟩ := q
        rw [ea] at q1
        cases q1
        exact ⟨a, vs, rfl, q2, q4, q5, q6⟩
      | fr d =>
        obtain ⟨a', q1, q2⟩ := q
        rw [ea] at q1
        cases q1
        exact Rpt.of S.sub q2
      | env is xs =>
        rw [e] at n
        cases n
  | _ => exact Rpt.of S.sub r
theorem SA.th (S : SA K mg FF H W μ st) (r : Rpa K mg W μ d x) (n : notMut (thD d st) = true) : Rp K mg (W.at H) (thD d st) x := (S.tt r n).at S.le
end
/-! ### values by their data -/
section
variable {X : Cx} {WE : WX} {pins : List (Addr × Obj)} {s : Shared} {σ : L2.St} {H : Hp} {W : Vw} {μ : List Addr} {st : Sto} {FF : List (Addr × HO)} {Q : VK} {u v : Value} {x y : V}
theorem Rp.sqT {K : PySem.W.Frag} {mg : Str → Option Value} {ds : List D} (h : Rp K mg W (.tup ds) x) (sub : SubG W.G H) : ∃ a vs, x = .ref a ∧ SqT K H a vs ∧ Rps K mg W ds vs := by
  simp only [Rp] at h
  obtain ⟨a, vs, e, q, r⟩ := h
  exact ⟨a, vs, e, sqT_sub sub q, r⟩
theorem Rp.lstH {K : PySem.W.Frag} {mg : Str → Option Value} {ds : List D} (h : Rp K mg W (.lst ds) x) (sub : SubG W.G H) : ∃ a vs, x = .ref a ∧ H a = some (.lst vs) ∧ Rps K mg W ds vs := by
  simp only [Rp] at h
  obtain ⟨a, vs, e, q, r⟩ := h
  exact ⟨a, vs, e, sub _ _ q, r⟩
theorem Rps.ints {K : PySem.W.Frag} {mg : Str → Option Value} : ∀ {ns : List Int} {vs : List V}, Rps K mg W (ns.map .int) vs → vs = ns.map V.int
  | [], _, h => by simpa [Rps] using h
  | n :: ns, _, h => by
    simp only [List.map_cons, Rps] at h
    obtain ⟨v, r, e, h1, h2⟩ := h
    simp only [Rp] at h1
    rw [e, h1, Rps.ints h2]
    rfl
theorem Rps.of_ints {K : PySem.W.Frag} {mg : Str → Option Value} : ∀ (ns : List Int), Rps K mg W (ns.map .int) (ns.map V.int)
  | [] => by simp [Rps]
  | n :: ns => by
    simp only [List.map_cons, Rps]
    exact ⟨_, _, rfl, by simp only [Rp], Rps.of_ints ns⟩
/-- the items of a thing that is walked -/
theorem items_rp {K : PySem.W.Frag} {mg : Str → Option Value} {W : Vw} {x : V} {d : D} {ds : List D} (s : SubG W.G H) (r : Rpt K mg H W d x) (h : itemsO d = some ds) :
    ∃ a vs, x = .ref a ∧ (SqT K H a vs ∨ SqL K H a vs) ∧ Rps K mg W ds vs := by
  cases d <;> first | (simp [itemsO] at h; done) | skip
  · simp only [itemsO, Option.some.injEq] at h
    subst h
    obtain ⟨a, vs, e, q, r⟩ := Rp.sqT (show Rp K mg W (.tup _) x from r) s
    exact ⟨a, vs, e, .inl q, r⟩
  · simp only [itemsO, Option.some.injEq] at h
    subst h
    obtain ⟨a, vs, e, q, r⟩ := r
    exact ⟨a, vs, e, .inr (SqL.of q), r⟩
  · simp only [itemsO, Option.some.injEq] at h
    subst h
    have r' : Rp K mg W (.scr _) x := r
    simp only [Rp] at r'
    obtain ⟨a, e, q⟩ := r'
    exact ⟨a, _, e, .inr (sqL_sub s q), Rps.of_ints _⟩
theorem itemsO_nm {d : D} {ds : List D} (h : itemsO d = some ds) : notMut d = true := by
  cases d <;> first | rfl | (simp [itemsO] at h)
theorem items_seq {K : PySem.W.Frag} {mg : Str → Option Value} {d : D} {ds : List D} {x : V} (S : SA K mg FF H W μ st) (r : Rpa K mg W μ d x) (h : itemsD d st = some ds) :
    ∃ a vs, x = .ref a ∧ (SqT K H a vs ∨ SqL K H a vs) ∧ Rps K mg W ds vs := items_rp S.sub (S.tt r (itemsO_nm h)) h
theorem add_tup {t b : Addr} {xs ys : List V} {ds es : List D} (I : Inv X pins σ H s) (S : SA X.K X.mg FF H W μ st) (h1 : SqT X.K H t xs) (h2 : SqT X.K H b ys) (rb : Rp X.K X.mg W (.tup es) (.ref b)) (rt : Rp X.K X.mg W (.tup ds) (.ref t)) (r1 : Rps X.K X.mg W ds xs) (r2 : Rps X.K X.mg W es ys)
    (hz : xs.length + ys.length ≤ sizeLine) (q : ∀ v H' W' μ', SA X.K X.mg FF H' W' μ' st → Ex2 W μ W' μ' → Rpa X.K X.mg W' μ' (.tup (ds ++ es)) v → Q v H') :
    wpAny (model X.prog X.w) X.A (binaryOp .Add (.ref t) (.ref b)) (EP X pins σ Q) X.xe s := by
  obtain ⟨vs, rv, pt, _⟩ := I.tuple h1
  obtain ⟨ws, rw', pb, _⟩ := I.tuple h2
  obtain ⟨⟨cls, dd, data, sl⟩, ho, hc, n, hd⟩ := id pt
  obtain ⟨⟨cls2, dd2, data2, sl2⟩, ho2, hc2, n2, hd2⟩ := id pb
  simp only at hc hd hc2 hd2
  subst hc hd hc2 hd2
  have e : vs.toArray ++ ws.toArray = (vs ++ ws).toArray := by simp
  have lv := rv.length
  have lw := rw'.length
  by_cases hv : vs = []
  · refine concat_meets ⟨_, ho, rfl⟩ ⟨_, ho2, rfl⟩ noFill_tuple_add seq_tuple_add PySem.F.slot_tuple_add PySem.F.entry_tuple_add (PySem.F.args_tuple_add_2 _ _)
      (tuple_addW0 t b vs.toArray ws.toArray n n2 dd dd2 sl sl2 (by simp [hv])) ⟨ho, ho2, ?_⟩
    have ed : ds = [] := by
      have := r1.length
      rw [lv, hv] at this
      exact List.eq_nil_of_length_eq_zero this
    subst ed
    exact ⟨.ref b, H, I, rfl, q _ H W μ S (Ex2.refl _ _) (by simpa using rb.a)⟩
  · by_cases hw : ws = []
    · refine concat_meets ⟨_, ho, rfl⟩ ⟨_, ho2, rfl⟩ noFill_tuple_add seq_tuple_add PySem.F.slot_tuple_add PySem.F.entry_tuple_add (PySem.F.args_tuple_add_2 _ _)
        (tuple_addW1 t b vs.toArray ws.toArray n n2 dd dd2 sl sl2 (by simpa using hv) (by simp [hw])) ⟨ho, ho2, ?_⟩
      have ed : es = [] := by
        have := r2.length
        rw [lw, hw] at this
        exact List.eq_nil_of_length_eq_zero this
      subst ed
      exact ⟨.ref t, H, I, rfl, q _ H W μ S (Ex2.refl _ _) (by simpa using rt.a)⟩
    · refine concat_meets ⟨_, ho, rfl⟩ ⟨_, ho2, rfl⟩ noFill_tuple_add seq_tuple_add PySem.F.slot_tuple_add PySem.F.entry_tuple_add (PySem.F.args_tuple_add_2 _ _)
        (tuple_addW2 t b vs.toArray ws.toArray n n2 dd dd2 sl sl2 (by simpa using hv) (by simpa using hw) (by rw [List.size_toArray, List.size_toArray]; omega)) ⟨ho, ho2, ?_⟩
      rw [e]
      have hn : H s.heap.objs.size = none := I.hok.fresh (Nat.le_refl _)
      refine ⟨.ref s.heap.objs.size, _, I.laid (t' := s.toks) (o := .tup (xs ++ ys)) (fun b o e => Heap.get?_push_of_some _ e) (Nat.le_refl _) ⟨by rw [List.length_append]; exact hz, vs ++ ws, rv.append rw', IsTup.new _ _⟩, rfl, ?_⟩
      have le := LeW.put (o := .tup (xs ++ ys)) (S.gnone hn)
      refine q _ _ _ _ (S.put hn) ⟨le, [], by simp⟩ (Rp.a ?_)
      simp only [Rp]
      exact ⟨_, xs ++ ys, rfl, SqT.of upd_same, (r1.app r2).mono le⟩
theorem szI_ok {i : Int} (h : szI i = true) : i.natAbs.log2 < 9000 := of_decide_eq_true h
theorem rep_len {α : Type} (l : List α) : ∀ k : Nat, (List.replicate k l).flatten.length = l.length * k
  | 0 => by simp
  | k + 1 => by rw [List.replicate_succ, List.flatten_cons, List.length_append, rep_len l k, Nat.mul_succ]; omega
theorem line1m : 1000000 ≤ sizeLine := by rw [sizeLine_eq]; decide

theorem tuple_mulE (l : Addr) (items : Array Value) (n : Nat) (dd : Option Addr) (sl : Array (Option Value)) (x : Int) (u : Tok) (c0 : (decide (x < -(2 ^ 63)) || decide (x ≥ 2 ^ 63)) = false) (c1 : (items.isEmpty || x == 1) = true) :
    Meets (Builtin.«tuple.__mul__» ⟨[.ref l, .int x u], []⟩) (fun _ R s => s.heap.get? l = some { cls := .type "tuple", dict := dd, data := .seq items n, slots := sl } ∧
      R (.ok (.ret (Value.ref l))) { s with heap := s.heap, toks := s.toks }) :=
  .of_wp fun prog w A R s h => by
    obtain ⟨hp, g, d, tk, os⟩ := s
    obtain ⟨hl, h⟩ := h
    have f1 := AutoSeq1.idx_int
    wp_walk using wpAny_loadPart' hl
    repeat (first
      | (refine wpAny_ite_false (decide_eq_false (by rw [c0]; exact Bool.false_ne_true)) ?_; wp_walk using wpAny_loadPart' hl)
      | (refine wpAny_ite_true (decide_eq_true c1) ?_; wp_walk using wpAny_loadPart' hl))
    exact ⟨_, rfl, h⟩
theorem tuple_mul0 (l : Addr) (items : Array Value) (n : Nat) (dd : Option Addr) (sl : Array (Option Value)) (x : Int) (u : Tok) (c0 : (decide (x < -(2 ^ 63)) || decide (x ≥ 2 ^ 63)) = false) (c1 : (items.isEmpty || x == 1) = false) (c2 : (decide (x ≤ 0) || items.isEmpty) = true) :
    Meets (Builtin.«tuple.__mul__» ⟨[.ref l, .int x u], []⟩) (fun _ R s => s.heap.get? l = some { cls := .type "tuple", dict := dd, data := .seq items n, slots := sl } ∧
      R (.ok (.ret (Value.ref s.heap.objs.size))) { s with heap := s.heap.push { cls := Value.type "tuple", data := Data.seq #[] }, toks := s.toks }) :=
  .of_wp fun prog w A R s h => by
    obtain ⟨hp, g, d, tk, os⟩ := s
    obtain ⟨hl, h⟩ := h
    have f1 := AutoSeq1.idx_int
    have hz : (#[] : Array Value).size ≤ sizeLine := Nat.zero_le _
    wp_walk using wpAny_loadPart' hl
    repeat (first
      | (refine wpAny_ite_false (decide_eq_false (by rw [c0]; exact Bool.false_ne_true)) ?_; wp_walk using wpAny_loadPart' hl)
      | (refine wpAny_ite_false (decide_eq_false (by rw [c1]; exact Bool.false_ne_true)) ?_; wp_walk using wpAny_loadPart' hl)
      | (refine wpAny_ite_true (decide_eq_true c2) ?_; wp_walk using wpAny_loadPart' hl))
    exact ⟨_, rfl, h⟩
end
end Ev
end
section
set_option Elab.async false
set_option linter.all false
set_option maxRecDepth 100000
set_option maxHeartbeats 1000003
namespace Ev
open PySem PySem.Spec PyProof.Rows L2
variable [Gh]
section
variable {X : Cx} {WE : WX} {pins : List (Addr × Obj)} {s : Shared} {σ τ : L2.St} {H : Hp} {W : Vw} {μ : List Addr} {st : Sto} {FF : List (Addr × HO)} {Q : VK} {u v : Value} {x y : V}
/-- a new tuple, a new list: tracked and plain -/
theorem new_tup {xs : List V} {ds : List D} {vs : List Value} {tk : Nat} (I : Inv X pins σ H s) (S : SA X.K X.mg FF H W μ st) (rv : Vals xs vs) (r : Rps X.K X.mg W ds xs) (hz : xs.length ≤ sizeLine)
    (q : ∀ v H' W' μ', SA X.K X.mg FF H' W' μ' st → Ex2 W μ W' μ' → Rpa X.K X.mg W' μ' (.tup ds) v → Q v H') :
    EP X pins σ Q (.ref s.heap.objs.size) { s with heap := s.heap.push { cls := .type "tuple", data := .seq vs.toArray }, toks := tk } := by
  have hn : H s.heap.objs.size = none := I.hok.fresh (Nat.le_refl _)
  refine ⟨.ref s.heap.objs.size, _, I.laid (t' := tk) (o := .tup xs) (fun b o e => Heap.get?_push_of_some _ e) (Nat.le_refl _) ⟨hz, vs, rv, IsTup.new _ _⟩, rfl, ?_⟩
  have le := LeW.put (o := .tup xs) (S.gnone hn)
  refine q _ _ _ _ (S.put hn) ⟨le, [], by simp⟩ (Rp.a ?_)
  simp only [Rp]
  exact ⟨_, xs, rfl, SqT.of upd_same, r.mono le⟩
theorem put_lst {p : Addr} {xs : List V} {ds : List D} (S : SA X.K X.mg FF H W μ st) (hn : H p = none) (r : Rps X.K X.mg W ds xs) (q : ∀ v H' W' μ', SA X.K X.mg FF H' W' μ' st → Ex2 W μ W' μ' → Rpa X.K X.mg W' μ' (.lst ds) v → Q v H') :
    Q (.ref p) (upd H p (.lst xs)) := by
  have le := LeW.put (o := .lst xs) (S.gnone hn)
  refine q _ _ _ _ (S.put hn) ⟨le, [], by simp⟩ (Rp.a ?_)
  simp only [Rp]
  exact ⟨_, xs, rfl, upd_same, r.mono le⟩
theorem mul_tup {t : Addr} {k : Int} {tk : Tok} {xs : List V} {ds : List D} (I : Inv X pins σ H s) (S : SA X.K X.mg FF H W μ st) (hT : SqT X.K H t xs) (rt : Rp X.K X.mg W (.tup ds) (.ref t)) (r : Rps X.K X.mg W ds xs) (h0 : 0 ≤ k) (h1 : k < 2 ^ 62) (hz : ds.length * k.toNat ≤ 1000000)
    (q : ∀ v H' W' μ', SA X.K X.mg FF H' W' μ' st → Ex2 W μ W' μ' → Rpa X.K X.mg W' μ' (.tup (List.replicate k.toNat ds).flatten) v → Q v H') :
    wpAny (model X.prog X.w) X.A (binaryOp .Mult (.ref t) (.int k tk)) (EP X pins σ Q) X.xe s := by
  obtain ⟨its, rv, ⟨⟨cls, dd, data, sl⟩, ho, hc, n, hd⟩, hs⟩ := I.tuple hT
  simp only at hc hd
  subst hc hd
  have hle : its.length = ds.length := by rw [r.length, rv.length]
  have hsz0 : its.toArray.size = ds.length := by rw [List.size_toArray, hle]
  have c0 : (decide (k < -(2 ^ 63)) || decide (k ≥ 2 ^ 63)) = false := by
    rw [decide_eq_false (by omega), decide_eq_false (by omega)] <;> rfl
  have run : ∀ {B : PySem.Value → Prop} (_ : True), True := fun _ => trivial
  by_cases c1 : (its.toArray.isEmpty || k == 1) = true
  · refine wpAny_binaryOp_repeat_ref (T := "tuple") (U := "int") (by decide) ⟨_, ho, rfl⟩ (fun s' => typeIs_int s' k tk) noFill_tuple_mul F.fills_int_mul F.slot_int_rmul repeat_tuple F.slot_int_index.lookup
      (call_meets F.slot_int_rmul (typeIs_int s k tk) F.entry_int_rmul (F.args_int_rmul_2 _ _) (int_rmul_tuple k tk t its.toArray n dd sl)
        ⟨ho, rfl, ⟨_, ho, rfl⟩, call_meets F.slot_tuple_mul ⟨_, ho, rfl⟩ F.entry_tuple_mul (F.args_tuple_mul_2 _ _) (tuple_mulE t its.toArray n dd sl k tk c0 c1) ⟨ho, ?_⟩⟩)
    refine ⟨.ref t, H, I, rfl, q _ H W μ S (Ex2.refl _ _) ?_⟩
    rcases Bool.or_eq_true_iff.mp c1 with c | c
    · have : ds = [] := by
        cases ds with
        | nil => rfl
        | cons a b =>
          have e : its = [] := by simpa using c
          rw [e] at hle
          simp at hle
      subst this
      have e : (List.replicate k.toNat ([] : List D)).flatten = [] := by
        rw [← List.length_eq_zero_iff, rep_len]
        simp
      rw [e]
      exact rt.a
    · have e : k = 1 := by simpa using c
      subst e
      simpa using rt.a
  · have c1' : (its.toArray.isEmpty || k == 1) = false := by simpa using c1
    by_cases c2 : (decide (k ≤ 0) || its.toArray.isEmpty) = true
    · have ek : k = 0 := by
        rcases Bool.or_eq_true_iff.mp c2 with c | c
        · have := of_decide_eq_true c
          omega
        · rw [c] at c1'
          simp at c1'
      refine wpAny_binaryOp_repeat_ref (T := "tuple") (U := "int") (by decide) ⟨_, ho, rfl⟩ (fun s' => typeIs_int s' k tk) noFill_tuple_mul F.fills_int_mul F.slot_int_rmul repeat_tuple F.slot_int_index.lookup
        (call_meets F.slot_int_rmul (typeIs_int s k tk) F.entry_int_rmul (F.args_int_rmul_2 _ _) (int_rmul_tuple k tk t its.toArray n dd sl)
          ⟨ho, rfl, ⟨_, ho, rfl⟩, call_meets F.slot_tuple_mul ⟨_, ho, rfl⟩ F.entry_tuple_mul (F.args_tuple_mul_2 _ _) (tuple_mul0 t its.toArray n dd sl k tk c0 c1' c2) ⟨ho, ?_⟩⟩)
      subst ek
      exact new_tup (xs := []) (vs := []) (ds := []) (tk := s.toks) I S .nil Rps.nil (Nat.zero_le _) q
    · have c2' : (decide (k ≤ 0) || its.toArray.isEmpty) = false := by simpa using c2
      have hm : ((its.toArray.size : Nat) : Int) * k ≤ 1000000 := by
        rw [hsz0]
        have e : (k.toNat : Int) = k := Int.toNat_of_nonneg h0
        rw [← e]
        have := Int.ofNat_le.mpr hz
        rw [Int.natCast_mul] at this
        omega
      have c4 : Builtin.Tuple.tupleTooMany (((its.toArray.size : Nat) : Int) * k) = false := by
        unfold Builtin.Tuple.tupleTooMany
        rw [sizeLine_eq]
        exact decide_eq_false (by omega)
      have flen : (List.replicate k.toNat its).flatten.length ≤ sizeLine := by
        rw [rep_len, hle]
        exact Nat.le_trans hz line1m
      refine wpAny_binaryOp_repeat_ref (T := "tuple") (U := "int") (by decide) ⟨_, ho, rfl⟩ (fun s' => typeIs_int s' k tk) noFill_tuple_mul F.fills_int_mul F.slot_int_rmul repeat_tuple F.slot_int_index.lookup
        (call_meets F.slot_int_rmul (typeIs_int s k tk) F.entry_int_rmul (F.args_int_rmul_2 _ _) (int_rmul_tuple k tk t its.toArray n dd sl)
          ⟨ho, rfl, ⟨_, ho, rfl⟩, call_meets F.slot_tuple_mul ⟨_, ho, rfl⟩ F.entry_tuple_mul (F.args_tuple_mul_2 _ _) (tuple_mulW t its.toArray n dd sl k tk c0 c1' c2' (by omega) c4 (by rw [size_rep, List.size_toArray]; exact flen)) ⟨ho, ?_⟩⟩)
      rw [size_rep]
      exact new_tup (tk := s.toks) I S (rv.rep k.toNat) (r.rep k.toNat) (by rw [rep_len, ← r.length]; exact Nat.le_trans hz line1m) q

theorem opD_pt {o : Option D} (h : Pt X.K X.mg WE (relA X.K X.mg) FF τ W μ (opD o st) Q) (S : SA X.K X.mg FF H W μ st) : ∃ r, o = some r ∧ ∀ v, Rpa X.K X.mg W μ r v → Q v H := by
  unfold opD at h
  cases o with
  | none => exact False.elim h
  | some r => exact ⟨r, rfl, fun v rv => h v H W μ S (Ex2.refl _ _) rv⟩
theorem int_of {FF : List (Addr × HO)} {H : Hp} {W : Vw} {μ : List Addr} {st : Sto} {a : D} {x : V} {i : Int} (S : SA X.K X.mg FF H W μ st) (r : Rpa X.K X.mg W μ a x) (e : thD a st = .int i) : x = .int i := by
  have r' := S.tt r (by rw [e]; rfl)
  rw [e] at r'
  exact r'
theorem str_of {FF : List (Addr × HO)} {H : Hp} {W : Vw} {μ : List Addr} {st : Sto} {a : D} {x : V} {i : Str} (S : SA X.K X.mg FF H W μ st) (r : Rpa X.K X.mg W μ a x) (e : thD a st = .str i) : x = .str i := by
  have r' := S.tt r (by rw [e]; rfl)
  rw [e] at r'
  exact r'
theorem lst_of {FF : List (Addr × HO)} {H : Hp} {W : Vw} {μ : List Addr} {st : Sto} {a : D} {x : V} {ds : List D} (S : SA X.K X.mg FF H W μ st) (r : Rpa X.K X.mg W μ a x) (e : thD a st = .lst ds) : ∃ t vs, x = .ref t ∧ H t = some (.lst vs) ∧ Rps X.K X.mg W ds vs := by
  have r' := S.tt r (by rw [e]; rfl)
  rw [e] at r'
  exact r'
theorem dct_of {FF : List (Addr × HO)} {H : Hp} {W : Vw} {μ : List Addr} {st : Sto} {a : D} {x : V} {ks : List Ky} {ds : List D} (S : SA X.K X.mg FF H W μ st) (r : Rpa X.K X.mg W μ a x) (e : thD a st = .dct ks ds) :
    ∃ t vs, x = .ref t ∧ H t = some (.dK (ks.zip vs)) ∧ ks.length = ds.length ∧ ks.Nodup ∧ Rps X.K X.mg W ds vs := by
  have r' := S.tt r (by rw [e]; rfl)
  rw [e] at r'
  exact r'
theorem tup_of {FF : List (Addr × HO)} {H : Hp} {W : Vw} {μ : List Addr} {st : Sto} {a : D} {x : V} {ds : List D} (S : SA X.K X.mg FF H W μ st) (r : Rpa X.K X.mg W μ a x) (e : thD a st = .tup ds) : Rp X.K X.mg W (.tup ds) x := by
  have r' := S.tt r (by rw [e]; rfl)
  rw [e] at r'
  exact r'
/-- a thing is kept: it stays as it is from now on -/
theorem frz_ok {K : PySem.W.Frag} {mg : Str → Option Value} {d d' : D} {x : V} {st' : Sto} (S : SA K mg FF H W μ st) (r : Rpa K mg W μ d x) (e : frzD d st = .ok d' st') : ∃ W', SA K mg FF H W' μ st' ∧ Ex2 W μ W' μ ∧ Rp K mg W' d' x := by
  cases d with
  | mu k =>
    obtain ⟨a, ea, rfl⟩ := r
    unfold frzD at e
    dsimp only at e
    split at e
    · rename_i xs es
      cases e
      obtain ⟨a', vs, q1, q2, q3, q4⟩ := S.sto k _ es
      rw [ea] at q1
      cases q1
      have le := LeW.put (o := .lst vs) q3
      have rp : Rp K mg (W.put a (.lst vs)) (.lst xs) (.ref a) := by
        simp only [Rp]
        exact ⟨a, vs, rfl, upd_same, q4.mono le⟩
      exact ⟨_, S.freeze es rfl ea q2 rp, ⟨le, [], by simp⟩, rp⟩
    · rename_i ks xs es
      cases e
      obtain ⟨a', vs, q1, q2, q3, q4, q5, q6⟩ := S.sto k _ es
      rw [ea] at q1
      cases q1
      have le := LeW.put (o := .dK (ks.zip vs)) q3
      have rp : Rp K mg (W.put a (.dK (ks.zip vs))) (.dct ks xs) (.ref a) := by
        simp only [Rp]
        exact ⟨a, vs, rfl, upd_same, q4, q5, q6.mono le⟩
      exact ⟨_, S.freeze es rfl ea q2 rp, ⟨le, [], by simp⟩, rp⟩
    · rename_i dd es
      cases e
      obtain ⟨a', q1, q2⟩ := S.sto k _ es
      rw [ea] at q1
      cases q1
      exact ⟨W, S, Ex2.refl _ _, q2⟩
    · cases e
  | _ =>
    cases e
    exact ⟨W, S, Ex2.refl _ _, r⟩
theorem frz_ex {d : D} {x : Ex} {st st' : Sto} (e : frzD d st = .exc x st') : False := by
  cases d with
  | mu k =>
    unfold frzD at e
    dsimp only at e
    split at e <;> cases e
  | _ => cases e
theorem frz_pt {α β : Type} {K : PySem.W.Frag} {mg : Str → Option Value} {rel : Rl α β} {d : D} {x : V} {f : D → M α} {Q : β → Hp → Prop} (S : SA K mg FF H W μ st) (r : Rpa K mg W μ d x) (h : Pt K mg WE rel FF τ W μ (bnd (frzD d) f st) Q) :
    ∃ d' st' W', SA K mg FF H W' μ st' ∧ Ex2 W μ W' μ ∧ Rp K mg W' d' x ∧ Pt K mg WE rel FF τ W' μ (f d' st') Q := by
  unfold bnd at h
  cases e : frzD d st with
  | ok d' st' =>
    rw [e] at h
    obtain ⟨W', S', x', r'⟩ := frz_ok S r e
    exact ⟨d', st', W', S', x', r', Pt.mono x' h⟩
  | exc y st' => exact (frz_ex e).elim
  | no =>
    rw [e] at h
    exact False.elim h
theorem frzs_pt {α β : Type} {K : PySem.W.Frag} {mg : Str → Option Value} {rel : Rl α β} {Q : β → Hp → Prop} : ∀ {ds : List D} {xs : List V} {W : Vw} {st : Sto} {f : List D → M α}, SA K mg FF H W μ st → Rpas K mg W μ ds xs → Pt K mg WE rel FF τ W μ (bnd (frzDs ds) f st) Q →
    ∃ ds' st' W', SA K mg FF H W' μ st' ∧ Ex2 W μ W' μ ∧ Rps K mg W' ds' xs ∧ Pt K mg WE rel FF τ W' μ (f ds' st') Q
  | [], _, W, st, f, S, r, h => by
    obtain rfl : _ = [] := r
    exact ⟨[], st, W, S, Ex2.refl _ _, Rps.nil, h⟩
  | d :: ds, _, W, st, f, S, r, h => by
    obtain ⟨x, q, rfl, r1, r2⟩ := r
    have h' : Pt K mg WE rel FF τ W μ (bnd (frzD d) (fun x => bnd (frzDs ds) fun xs => f (x :: xs)) st) Q := by
      rw [frzDs, bnd_bnd] at h
      have e : (fun a => bnd (bnd (frzDs ds) fun xs => ret (a :: xs)) f) = fun a => bnd (frzDs ds) fun xs => f (a :: xs) := by
        funext a
        rw [bnd_bnd]
        rfl
      rw [e] at h
      exact h
    obtain ⟨d', st', W', S', x', r', h2⟩ := frz_pt S r1 h'
    obtain ⟨ds', st2, W2, S2, x2, rr, h3⟩ := frzs_pt S' (r2.mono x') h2
    exact ⟨d' :: ds', st2, W2, S2, x'.trans x2, Rps.cons (r'.mono x2.w) rr, h3⟩
theorem op_fdivA {X : Cx} : OpR X (binaryOp .FloorDiv) (rI (fun _ j => j ≠ 0 ∧ j.natAbs.log2 < 9000) fun i j => .int (i.fdiv j)) := opI fun _ _ _ _ _ _ _ hc q => floordiv_int hc.1 q (.inl (PyProof.noPylong_of_log2 hc.2))
theorem bin_ok {op : Operator} {a b : D} (I : Inv X pins σ H s) (S : SA X.K X.mg FF H W μ st) (ra : Rpa X.K X.mg W μ a x) (rb : Rpa X.K X.mg W μ b y) (rx : RelV x u) (ry : RelV y v) (h : Pt X.K X.mg WE (relA X.K X.mg) FF τ W μ (binD op a b st) Q) :
    wpAny (model X.prog X.w) X.A (binaryOp op u v) (EP X pins σ Q) X.xe s := by
  unfold binD at h
  have h0 := h
  obtain ⟨r, hr, q⟩ := opD_pt h S
  rw [hr] at h0
  have hb : ∀ v H' W' μ', SA X.K X.mg FF H' W' μ' st → Ex2 W μ W' μ' → Rpa X.K X.mg W' μ' r v → Q v H' := h0
  unfold binO at hr
  split at hr
  · rename_i i j e1 e2
    cases hr
    obtain rfl := int_of S ra e1
    obtain rfl := int_of S rb e2
    exact op_add pins s σ H _ _ u v Q I rx ry ⟨_, _, rfl, rfl, q _ rfl⟩
  · rename_i i j e1 e2
    cases hr
    obtain rfl := int_of S ra e1
    obtain rfl := int_of S rb e2
    exact op_sub pins s σ H _ _ u v Q I rx ry ⟨_, _, rfl, rfl, q _ rfl⟩
  · rename_i i j e1 e2
    split at hr
    · rename_i c
      cases hr
      obtain rfl := int_of S ra e1
      obtain rfl := int_of S rb e2
      unfold mulOk at c
      obtain ⟨c1, c2⟩ := Bool.and_eq_true_iff.mp c
      have c1 := szI_ok c1
      have c2 := szI_ok c2
      exact op_mulW pins s σ H _ _ u v Q I rx ry ⟨_, _, rfl, rfl, by unfold CMulW; omega, q _ rfl⟩
    · cases hr
  · rename_i i j e1 e2
    split at hr
    · rename_i c
      cases hr
      obtain rfl := int_of S ra e1
      obtain rfl := int_of S rb e2
      obtain ⟨c1, c2⟩ := Bool.and_eq_true_iff.mp c
      exact op_fdivA pins s σ H _ _ u v Q I rx ry ⟨_, _, rfl, rfl, ⟨of_decide_eq_true c1, szI_ok c2⟩, q _ rfl⟩
    · cases hr
  · rename_i i j e1 e2
    split at hr
    · rename_i c
      cases hr
      obtain rfl := int_of S ra e1
      obtain rfl := int_of S rb e2
      exact op_mod pins s σ H _ _ u v Q I rx ry ⟨_, _, rfl, rfl, of_decide_eq_true c, q _ rfl⟩
    · cases hr
  · rename_i i j e1 e2
    split at hr
    · rename_i c
      cases hr
      obtain rfl := int_of S ra e1
      obtain rfl := int_of S rb e2
      obtain ⟨c, c3⟩ := Bool.and_eq_true_iff.mp c
      obtain ⟨c1, c2⟩ := Bool.and_eq_true_iff.mp c
      exact op_pow pins s σ H _ _ u v Q I rx ry ⟨_, _, rfl, rfl, ⟨of_decide_eq_true c1, of_decide_eq_true c2, of_decide_eq_true c3⟩, q _ rfl⟩
    · cases hr
  · rename_i xs0 ys0 e1 e2
    split at hr
    · rename_i c
      cases hr
      have ra' := tup_of S ra e1
      have rb' := tup_of S rb e2
      obtain ⟨t, xs, rfl, q1, r1⟩ := Rp.sqT ra' S.sub
      obtain ⟨b, ys, rfl, q2, r2⟩ := Rp.sqT rb' S.sub
      cases rx
      cases ry
      exact add_tup I S q1 q2 rb' ra' r1 r2 (by rw [← r1.length, ← r2.length]; exact Nat.le_trans (of_decide_eq_true c) line1m) hb
    · cases hr
  · rename_i xs0 ys0 e1 e2
    split at hr
    · rename_i c
      cases hr
      obtain ⟨t, xs, rfl, q1, r1⟩ := lst_of S ra e1
      obtain ⟨b, ys, rfl, q2, r2⟩ := lst_of S rb e2
      exact op_cat pins s σ H _ _ u v Q I rx ry ⟨t, b, xs, ys, rfl, rfl, q1, q2, by rw [← r1.length, ← r2.length]; exact Nat.le_trans (of_decide_eq_true c) line1m, fun p hp => put_lst S hp (r1.app r2) hb⟩
    · cases hr
  · rename_i i j e1 e2
    split at hr
    · rename_i c
      cases hr
      obtain rfl := str_of S ra e1
      obtain rfl := str_of S rb e2
      exact op_add_str pins s σ H _ _ u v Q I rx ry ⟨_, _, rfl, rfl, Nat.le_trans (of_decide_eq_true c) line1m, q _ rfl⟩
    · cases hr
  · rename_i xs0 j e1 e2
    split at hr
    · rename_i c
      cases hr
      obtain ⟨c, c3⟩ := Bool.and_eq_true_iff.mp c
      obtain ⟨c1, c2⟩ := Bool.and_eq_true_iff.mp c
      have c1 := of_decide_eq_true c1
      have c2 := of_decide_eq_true c2
      have ra' := tup_of S ra e1
      obtain ⟨t, xs, rfl, q1, r1⟩ := Rp.sqT ra' S.sub
      obtain rfl := int_of S rb e2
      cases rx
      obtain ⟨tk, rfl⟩ := ry
      exact mul_tup I S q1 ra' r1 c1 (by omega) (of_decide_eq_true c3) hb
    · cases hr
  · rename_i xs0 j e1 e2
    split at hr
    · rename_i c
      cases hr
      obtain ⟨c, c3⟩ := Bool.and_eq_true_iff.mp c
      obtain ⟨c1, c2⟩ := Bool.and_eq_true_iff.mp c
      have c1 := of_decide_eq_true c1
      have c2 := of_decide_eq_true c2
      obtain ⟨t, xs, rfl, q1, r1⟩ := lst_of S ra e1
      obtain rfl := int_of S rb e2
      exact op_rep pins s σ H _ _ u v Q I rx ry ⟨t, _, xs, rfl, rfl, q1, by omega, by omega, by rw [← r1.length]; exact Nat.le_trans (of_decide_eq_true c3) line1m, fun p hp => put_lst S hp (r1.rep _) hb⟩
    · cases hr
  · cases hr
end
end Ev
end
section
set_option Elab.async false
set_option linter.all false
set_option maxRecDepth 100000
set_option maxHeartbeats 1000003
namespace Ev
open PySem PySem.Spec PyProof.Rows L2
variable [Gh]
section
variable {K : PySem.W.Frag} {mg : Str → Option Value} {FF : List (Addr × HO)} {H : Hp} {W : Vw} {μ : List Addr} {st : Sto} {d : D} {x : V}
theorem toPy_pure {d : D} {p : PyData} (h : toPy d = some p) : notMut d = true := by
  cases d <;> first | rfl | (simp [toPy] at h)
mutual
theorem Rp.dp {W : Vw} : ∀ {d : D} {v : V} {p : PyData}, Rp K mg W d v → toPy d = some p → Dp K W.G v p
  | .non, _, _, r, h => by
    simp only [Rp] at r
    subst r
    simp only [toPy, Option.some.injEq] at h
    subst h
    exact .non
  | .bl b, _, _, r, h => by
    simp only [Rp] at r
    subst r
    simp only [toPy, Option.some.injEq] at h
    subst h
    exact .bl b
  | .int i, _, _, r, h => by
    simp only [Rp] at r
    subst r
    simp only [toPy, Option.some.injEq] at h
    subst h
    exact .int i
  | .str z, _, _, r, h => by
    simp only [Rp] at r
    subst r
    simp only [toPy, Option.some.injEq] at h
    subst h
    exact .str z
  | .tup ds, _, _, r, h => by
    simp only [Rp] at r
    obtain ⟨a, vs, rfl, q, r⟩ := r
    simp only [toPy, Option.map_eq_some_iff] at h
    obtain ⟨ps, h, rfl⟩ := h
    exact .tup q (Rps.dp r h)
  | .lst ds, _, _, r, h => by
    simp only [Rp] at r
    obtain ⟨a, vs, rfl, q, r⟩ := r
    simp only [toPy, Option.map_eq_some_iff] at h
    obtain ⟨ps, h, rfl⟩ := h
    exact .lst (SqL.of q) (Rps.dp r h)
  | .scr ns, _, _, _, h => by simp [toPy] at h
  | .dct ks ds, _, _, _, h => by simp [toPy] at h
  | .obj c fs ds, _, _, _, h => by simp [toPy] at h
  | .fn f, _, _, _, h => by simp [toPy] at h
  | .clo _, _, _, _, h => by simp [toPy] at h
  | .mu _, _, _, _, h => by simp [toPy] at h
theorem Rps.dp {W : Vw} : ∀ {ds : List D} {vs : List V} {ps : List PyData}, Rps K mg W ds vs → toPys ds = some ps → DpAll K W.G vs ps
  | [], _, _, r, h => by
    simp only [Rps] at r
    subst r
    simp only [toPys, Option.some.injEq] at h
    subst h
    exact .nil
  | d :: ds, _, _, r, h => by
    simp only [Rps] at r
    obtain ⟨v, q, rfl, r1, r2⟩ := r
    simp only [toPys] at h
    split at h
    · rename_i d' e1
      split at h
      · rename_i ds' e2
        cases h
        exact .cons (Rp.dp r1 e1) (Rps.dp r2 e2)
      · cases h
    · cases h
end
theorem getK_rp {W : Vw} {k : Ky} : ∀ {ks : List Ky} {ds : List D} {vs : List V}, Rps K mg W ds vs → ks.length = ds.length →
    (getK ks ds k = none → valV (ks.zip vs) k = none) ∧ ∀ d, getK ks ds k = some d → ∃ v, valV (ks.zip vs) k = some v ∧ Rp K mg W d v
  | [], _, _, r, l => by
    refine ⟨fun _ => by simp [valV], fun d h => ?_⟩
    cases h
  | k' :: ks, [], _, r, l => by simp at l
  | k' :: ks, d' :: ds, _, r, l => by
    simp only [Rps] at r
    obtain ⟨v, q, rfl, r1, r2⟩ := r
    have ih := getK_rp (k := k) r2 (by simpa using l)
    rw [List.zip_cons_cons]
    unfold getK
    by_cases h : k' = k
    · rw [if_pos h, valV_pos (p := (k', v)) h]
      refine ⟨fun e => (by cases e), fun d e => ?_⟩
      cases e
      exact ⟨v, rfl, r1⟩
    · rw [if_neg h, valV_neg (p := (k', v)) h]
      exact ih
theorem putK_mem {ks : List Ky} {ds : List D} {k : Ky} {d : D} : ∀ {y : Ky}, ks.length = ds.length → y ∈ (putK ks ds k d).1 → y ∈ ks ∨ y = k := by
  induction ks generalizing ds with
  | nil =>
    intro y l h
    cases ds with
    | nil => simp [putK] at h; exact .inr h
    | cons _ _ => simp at l
  | cons k' ks ih =>
    intro y l h
    cases ds with
    | nil => simp at l
    | cons d' ds =>
      unfold putK at h
      by_cases e : k' = k
      · rw [if_pos e] at h
        exact .inl h
      · rw [if_neg e] at h
        rcases List.mem_cons.mp h with h | h
        · exact .inl (by rw [h]; exact List.mem_cons_self ..)
        · rcases ih (by simpa using l) h with h | h
          · exact .inl (List.mem_cons_of_mem _ h)
          · exact .inr h
theorem any_no {ks : List Ky} {vs : List V} {k : Ky} (h : k ∉ ks) : ((ks.zip vs).any fun kv => decide (kv.1 = k)) = false := by
  rw [List.any_eq_false]
  intro p hp
  have := (List.of_mem_zip hp).1
  simp only [decide_eq_true_eq]
  intro e
  exact h (e ▸ this)
theorem map_no {ks : List Ky} {vs : List V} {k : Ky} {v : V} (h : k ∉ ks) : ((ks.zip vs).map fun kv => if kv.1 = k then (kv.1, v) else kv) = ks.zip vs := by
  refine (List.map_congr_left (g := id) fun p hp => ?_).trans (List.map_id _)
  have := (List.of_mem_zip hp).1
  rw [if_neg (fun (e : p.1 = k) => h (by rw [← e]; exact this))]
  rfl
theorem putK_rp {W : Vw} {k : Ky} {d : D} {v : V} (q : Rp K mg W d v) : ∀ {ks : List Ky} {ds : List D} {vs : List V}, Rps K mg W ds vs → ks.length = ds.length → ks.Nodup →
    ∃ vs', L2.putK (ks.zip vs) k v = (putK ks ds k d).1.zip vs' ∧ Rps K mg W (putK ks ds k d).2 vs' ∧ (putK ks ds k d).1.length = (putK ks ds k d).2.length ∧ (putK ks ds k d).1.Nodup
  | [], [], vs, r, l, n => by
    simp only [Rps] at r
    subst r
    exact ⟨[v], by simp [L2.putK, putK], by simp only [putK]; exact Rps.cons q Rps.nil, by simp [putK], by simp [putK]⟩
  | [], _ :: _, _, r, l, n => by simp at l
  | _ :: _, [], _, r, l, n => by simp at l
  | k' :: ks, d' :: ds, _, r, l, n => by
    simp only [Rps] at r
    obtain ⟨u, vs, rfl, r1, r2⟩ := r
    have n' := List.nodup_cons.mp n
    by_cases h : k' = k
    · refine ⟨v :: vs, ?_, ?_, ?_, ?_⟩ <;> unfold putK <;> rw [if_pos h]
      · show L2.putK _ k v = _
        unfold L2.putK
        rw [List.zip_cons_cons, List.zip_cons_cons, List.any_cons, decide_eq_true h, Bool.true_or, if_pos rfl, List.map_cons, if_pos h, map_no (h ▸ n'.1)]
      · exact Rps.cons q r2
      · simpa using l
      · exact n
    · obtain ⟨vs', e1, e2, e3, e4⟩ := putK_rp (k := k) q r2 (by simpa using l) n'.2
      refine ⟨u :: vs', ?_, ?_, ?_, ?_⟩ <;> unfold putK <;> rw [if_neg h]
      · show L2.putK _ k v = _
        rw [List.zip_cons_cons, List.zip_cons_cons, ← e1]
        unfold L2.putK
        rw [List.any_cons, decide_eq_false h, Bool.false_or]
        split
        · rw [List.map_cons, if_neg h]
        · rfl
      · exact Rps.cons r1 e2
      · simp [e3]
      · refine List.nodup_cons.mpr ⟨fun m => ?_, e4⟩
        rcases putK_mem (by simpa using l) m with m | m
        · exact n'.1 m
        · exact h m
theorem keyD_rp {W : Vw} {d : D} {k : Ky} {v : V} (h : keyD d = some k) (r : Rpa K mg W μ d v) : v = kV k := by
  cases d <;> first | (simp [keyD] at h; done) | skip
  · simp only [keyD, Option.some.injEq] at h
    subst h
    exact r
  · simp only [keyD, Option.some.injEq] at h
    subst h
    exact r
theorem ixN_eq (n : Nat) (i : Int) : L2.ixN n i = ixN n i := rfl
theorem atI_rp {W : Vw} {ds : List D} {vs : List V} {i : Int} {d : D} (r : Rps K mg W ds vs) (h : atI ds i = some d) : ∃ v, L2.atI vs i = some v ∧ Rp K mg W d v := by
  unfold atI at h
  split at h
  · rename_i j e
    obtain ⟨v, h1, h2⟩ := r.get h
    refine ⟨v, ?_, h2⟩
    unfold L2.atI
    rw [ixN_eq, ← r.length, e]
    exact h1
  · cases h
end
section
variable {X : Cx} {WE : WX} {pins : List (Addr × Obj)} {s : Shared} {σ τ : L2.St} {H : Hp} {W : Vw} {μ : List Addr} {st : Sto} {FF : List (Addr × HO)} {Q : VK} {u v : Value} {x y : V} {a b : D}
/-- the room a frame has -/
theorem opB_pt {o : Option Bool} (h : Pt X.K X.mg WE (relB) FF τ W μ (opB o st) (fun b => Q (.bl b))) (S : SA X.K X.mg FF H W μ st) : ∃ r, o = some r ∧ Q (.bl r) H := by
  unfold opB at h
  cases o with
  | none => exact False.elim h
  | some r => exact ⟨r, rfl, h r H W μ S (Ex2.refl _ _) rfl⟩
theorem cmp_ok {op : CmpOp} (hu : X.A.units + 65 < cLine) (I : Inv X pins σ H s) (S : SA X.K X.mg FF H W μ st) (ra : Rpa X.K X.mg W μ a x) (rb : Rpa X.K X.mg W μ b y) (rx : RelV x u) (ry : RelV y v)
    (h : Pt X.K X.mg WE relB FF τ W μ (cmpD op a b st) (fun b => Q (.bl b))) :
    wpAny (model X.prog X.w) X.A (compareOp op u v) (EP X pins σ Q) X.xe s := by
  obtain ⟨r, hr, q⟩ := opB_pt (Q := Q) h S
  have eqq : ∀ {r : Bool}, eqD (thD a st) (thD b st) = some r → ∃ d e, Dp X.K H x d ∧ Dp X.K H y e ∧ SeqAt.shaped d = true ∧ SeqAt.shaped e = true ∧ r = PyData.eqv d e := by
    intro r hr
    unfold eqD at hr
    split at hr
    · rename_i p p' e1 e2
      split at hr
      · rename_i c
        cases hr
        obtain ⟨c1, c2⟩ := Bool.and_eq_true_iff.mp c
        exact ⟨p, p', Rp.dp (S.th ra (toPy_pure e1)) e1, Rp.dp (S.th rb (toPy_pure e2)) e2, c1, c2, rfl⟩
      · cases hr
    · cases hr
  have eqs : ∀ {r : Bool}, eqS (thD a st) (thD b st) = some r → (scal x y = true ∧ r = decide (x = y)) ∨ eqD (thD a st) (thD b st) = some r := by
    intro r hr
    unfold eqS at hr
    cases e1 : thD a st with
    | str z =>
      cases e2 : thD b st with
      | str z2 =>
        rw [e1, e2] at hr
        have r1 := S.th ra (by rw [e1]; rfl)
        have r2 := S.th rb (by rw [e2]; rfl)
        rw [e1] at r1
        rw [e2] at r2
        simp only [Rp] at r1 r2
        subst r1 r2
        refine .inl ⟨rfl, ?_⟩
        have hr' : some (decide (z = z2)) = some r := hr
        rw [← Option.some.inj hr']
        by_cases e : z = z2 <;> simp [e]
      | _ => rw [e1, e2] at hr; exact .inr hr
    | _ => rw [e1] at hr; exact .inr (by first | exact hr | (rw [← e1]; rw [e1]; exact hr))
  have inn : ∀ {r : Bool}, conD (thD a st) (thD b st) = some r → ∀ (neg : Bool) (q : Q (.bl (if neg then !r else r)) H),
      wpAny (model X.prog X.w) X.A (compareOp (if neg then .NotIn else .In) u v) (EP X pins σ Q) X.xe s := by
    intro r hr neg q
    unfold conD at hr
    split at hr
    · rename_i ys eb
      unfold inD at hr
      split at hr
      · rename_i p ps e1 e2
        split at hr
        · rename_i c
          obtain ⟨c, c3⟩ := Bool.and_eq_true_iff.mp c
          obtain ⟨c1, c2⟩ := Bool.and_eq_true_iff.mp c
          cases hr
          have d1 := Rp.dp (S.th ra (toPy_pure e1)) e1
          have d2 := Rp.dp (S.th rb (by rw [eb]; rfl)) (p := .tuple ps) (by rw [eb]; simp [toPy, e2])
          obtain ⟨as, r1⟩ := Dp.reads I p x u d1 rx
          obtain ⟨bs, r2⟩ := Dp.reads I (.tuple ps) y v d2 ry
          cases neg with
          | false => exact SeqAt.in_tuple_reads r2 r1 (SeqAt.canLay_of_shaped c3) (SeqAt.canLay_of_shaped c1) (room_in_shaped c1 hu) ⟨.bl _, H, I, rfl, q⟩
          | true => exact SeqAt.notIn_tuple_reads r2 r1 (SeqAt.canLay_of_shaped c3) (SeqAt.canLay_of_shaped c1) (room_in_shaped c1 hu) ⟨.bl _, H, I, rfl, q⟩
        · cases hr
      · cases hr
    · rename_i ys eb
      unfold inD at hr
      split at hr
      · rename_i p ps e1 e2
        split at hr
        · rename_i c
          obtain ⟨c, c3⟩ := Bool.and_eq_true_iff.mp c
          obtain ⟨c1, c2⟩ := Bool.and_eq_true_iff.mp c
          cases hr
          have d1 := Rp.dp (S.th ra (toPy_pure e1)) e1
          have d2 := Rp.dp (S.th rb (by rw [eb]; rfl)) (p := .list ps) (by rw [eb]; simp [toPy, e2])
          obtain ⟨as, r1⟩ := Dp.reads I p x u d1 rx
          obtain ⟨bs, r2⟩ := Dp.reads I (.list ps) y v d2 ry
          cases neg with
          | false => exact SeqAt.in_list_reads r2 r1 (SeqAt.canLay_of_shaped c2) (SeqAt.canLay_of_shaped c1) (room_in_shaped c1 hu) ⟨.bl _, H, I, rfl, q⟩
          | true => exact SeqAt.notIn_list_reads r2 r1 (SeqAt.canLay_of_shaped c2) (SeqAt.canLay_of_shaped c1) (room_in_shaped c1 hu) ⟨.bl _, H, I, rfl, q⟩
        · cases hr
      · cases hr
    · rename_i ks ys eb
      have rb' := S.th rb (by rw [eb]; rfl)
      rw [eb] at rb'
      simp only [Rp] at rb'
      obtain ⟨t, vs, rfl, q1, q2, q3, q4⟩ := rb'
      cases ry
      split at hr
      · rename_i k ek
        cases hr
        have ra' : Rpa X.K X.mg (W.at H) μ (thD a st) x := (S.th ra (by revert ek; cases thD a st <;> simp [keyD, notMut])).a
        have ex := keyD_rp ek ra'
        subst ex
        have g : DGet H t (kV k) (valV (ks.zip vs) k) := DGet.k q1
        have es : (valV (ks.zip vs) k).isSome = (getK ks ys k).isSome := by
          obtain ⟨g1, g2⟩ := getK_rp (k := k) q4 q2
          cases e : getK ks ys k with
          | none => rw [g1 e]; rfl
          | some d =>
            obtain ⟨z, e2, _⟩ := g2 d e
            rw [e2] <;> rfl
        cases neg with
        | false => exact d_in (by omega) I g rx fun s' I' => ⟨.bl _, H, I', rfl, by rw [es]; exact q⟩
        | true => exact d_notIn (by omega) I g rx fun s' I' => ⟨.bl _, H, I', rfl, by rw [es]; exact q⟩
      · cases hr
    · cases hr
  have lt : ∀ {r : Bool}, (match thD a st, thD b st with | .int i, .int j => ltI op i j | _, _ => none) = some r → ∃ i j, x = .int i ∧ y = .int j ∧ ltI op i j = some r := by
    intro r hr
    split at hr
    · rename_i i j e1 e2
      have ra' := S.th ra (by rw [e1]; rfl)
      have rb' := S.th rb (by rw [e2]; rfl)
      rw [e1] at ra'
      rw [e2] at rb'
      simp only [Rp] at ra' rb'
      exact ⟨i, j, ra', rb', hr⟩
    · cases hr
  have flat : ∀ {c : Bool}, (thD a st = .bl c ↔ x = .bl c) ∧ (isNon (thD a st) = decide (x = .non)) := by
    intro c
    by_cases n : notMut (thD a st) = true
    · have ra' := S.th ra n
      cases e : thD a st <;> rw [e] at ra' <;> simp only [Rp] at ra'
      · subst ra'; simp [isNon]
      · subst ra'; simp [isNon]
      · subst ra'; simp [isNon]
      · subst ra'; simp [isNon]
      · obtain ⟨_, _, rfl, _⟩ := ra'; simp [isNon]
      · obtain ⟨_, _, rfl, _⟩ := ra'; simp [isNon]
      · obtain ⟨_, rfl, _⟩ := ra'; simp [isNon]
      · obtain ⟨_, _, rfl, _⟩ := ra'; simp [isNon]
      · obtain ⟨_, _, _, _, rfl, _⟩ := ra'; simp [isNon]
      · obtain ⟨_, rfl, _⟩ := ra'; simp [isNon]
      · obtain ⟨_, _, _, _, rfl, _⟩ := ra'; simp [isNon]
    · cases a with
      | mu k =>
        obtain ⟨t, _, rfl⟩ := ra
        cases e : thD (.mu k) st with
        | mu j => simp [isNon]
        | _ => rw [e] at n; exact absurd rfl n
      | _ => exact absurd rfl n
  have isb : ∀ {c : Bool}, (u == Value.bool c) = isBl c (thD a st) := by
    intro c
    have f := flat (c := c)
    cases e : thD a st with
    | bl b =>
      have := (flat (c := b)).1.mp e
      subst this
      cases rx
      cases b <;> cases c <;> rfl
    | _ =>
      have ne : x ≠ .bl c := fun z => by
        have := f.1.mpr z
        rw [e] at this
        cases this
      cases x with
      | bl b =>
        cases rx
        cases b <;> cases c <;> first | rfl | exact absurd rfl ne
      | _ => first | (cases rx; rfl) | (obtain ⟨t, rfl⟩ := rx; rfl)
  have pb : ∀ {c : Bool}, plainIs u (.bool c) = true := by
    intro c
    cases u <;> first | rfl | (cases x <;> first | (cases rx; done) | (obtain ⟨_, rx⟩ := rx; cases rx; done))
  cases op with
  | Eq =>
    rcases eqs hr with ⟨hs, e⟩ | hr
    · exact op_eq pins s σ H x y u v Q I rx ry ⟨hs, by rw [← e]; exact q⟩
    obtain ⟨d, e, h1, h2, h3, h4, h5⟩ := eqq hr
    exact op_eqD (by omega) pins s σ H x y u v Q I rx ry ⟨d, e, h1, h2, h3, h4, by rw [← h5]; exact q⟩
  | NotEq =>
    obtain ⟨r', hr', rfl⟩ := Option.map_eq_some_iff.mp (show (eqS (thD a st) (thD b st)).map (!·) = some r from hr)
    rcases eqs hr' with ⟨hs, e⟩ | hr'
    · exact op_ne pins s σ H x y u v Q I rx ry ⟨hs, by rw [← e]; exact q⟩
    obtain ⟨d, e, h1, h2, h3, h4, h5⟩ := eqq hr'
    exact op_neD (by omega) pins s σ H x y u v Q I rx ry ⟨d, e, h1, h2, h3, h4, by rw [← h5]; exact q⟩
  | Lt =>
    obtain ⟨i, j, rfl, rfl, h⟩ := lt hr
    cases h
    exact op_lt pins s σ H _ _ u v Q I rx ry ⟨i, j, rfl, rfl, q⟩
  | LtE =>
    obtain ⟨i, j, rfl, rfl, h⟩ := lt hr
    cases h
    exact op_le pins s σ H _ _ u v Q I rx ry ⟨i, j, rfl, rfl, q⟩
  | Gt =>
    obtain ⟨i, j, rfl, rfl, h⟩ := lt hr
    cases h
    exact op_gt pins s σ H _ _ u v Q I rx ry ⟨i, j, rfl, rfl, q⟩
  | GtE =>
    obtain ⟨i, j, rfl, rfl, h⟩ := lt hr
    cases h
    exact op_ge pins s σ H _ _ u v Q I rx ry ⟨i, j, rfl, rfl, q⟩
  | Is =>
    unfold cmpO at hr
    dsimp only at hr
    split at hr
    · rename_i e
      cases hr
      have rb' := S.th rb (by rw [e]; rfl)
      rw [e] at rb'
      simp only [Rp] at rb'
      subst rb'
      exact op_isN pins s σ H _ _ u v Q I rx ry ⟨rfl, by rw [← (flat (c := true)).2]; exact q⟩
    · rename_i c e
      cases hr
      have rb' := S.th rb (by rw [e]; rfl)
      rw [e] at rb'
      simp only [Rp] at rb'
      subst rb'
      cases ry
      exact wpAny_is_plain pb ⟨.bl _, H, I, rfl, by rw [isb]; exact q⟩
    · cases hr
  | IsNot =>
    unfold cmpO at hr
    dsimp only at hr
    split at hr
    · rename_i e
      cases hr
      have rb' := S.th rb (by rw [e]; rfl)
      rw [e] at rb'
      simp only [Rp] at rb'
      subst rb'
      exact op_notN pins s σ H _ _ u v Q I rx ry ⟨rfl, by rw [← (flat (c := true)).2]; exact q⟩
    · rename_i c e
      cases hr
      have rb' := S.th rb (by rw [e]; rfl)
      rw [e] at rb'
      simp only [Rp] at rb'
      subst rb'
      cases ry
      exact wpAny_isNot_plain pb ⟨.bl _, H, I, rfl, by rw [isb]; exact q⟩
    · cases hr
  | In => exact inn hr false q
  | NotIn =>
    obtain ⟨r', hr', rfl⟩ := Option.map_eq_some_iff.mp (show (conD (thD a st) (thD b st)).map (!·) = some r from hr)
    exact inn hr' true q
end
end Ev
end
section
set_option Elab.async false
set_option linter.all false
set_option maxRecDepth 100000
set_option maxHeartbeats 1000003
namespace Ev
open PySem PySem.Spec PyProof.Rows L2
variable [Gh]
theorem toPyX_pure {d : Ev.D} {p : PyData} (h : toPyX d = some p) : notMut d = true := by
  cases d <;> first | rfl | (simp [toPyX, toPy] at h)
section
variable {X : Cx} {pins : List (Addr × Obj)} {σ : L2.St} {H : Hp} {s : Shared} {W : Vw}
/-- no list within: no address here is that of sys.modules -/
def AsOk (b : Bool) (as : List Addr) : Prop := b = true → sysModules ∉ as
mutual
theorem Rp.reads (I : Inv X pins σ H s) (sub : SubG W.G H) : ∀ (d : Ev.D) (v : V) (u : Value) (p : PyData), Rp X.K X.mg W d v → RelV v u → toPyX d = some p → ∃ as, Reads s.heap u p as ∧ AsOk (noLst d) as
  | .non, v, u, p, r, ru, h => by
    simp only [Rp] at r
    subst r
    cases ru
    simp only [toPyX, toPy, Option.some.injEq] at h
    subst h
    exact ⟨_, Reads.none, fun _ z => nomatch z⟩
  | .bl b, v, u, p, r, ru, h => by
    simp only [Rp] at r
    subst r
    cases ru
    simp only [toPyX, toPy, Option.some.injEq] at h
    subst h
    exact ⟨_, Reads.bool b, fun _ z => nomatch z⟩
  | .int i, v, u, p, r, ru, h => by
    simp only [Rp] at r
    subst r
    obtain ⟨t, rfl⟩ := ru
    simp only [toPyX, toPy, Option.some.injEq] at h
    subst h
    exact ⟨_, Reads.int i t, fun _ z => nomatch z⟩
  | .str x, v, u, p, r, ru, h => by
    simp only [Rp] at r
    subst r
    obtain ⟨t, rfl⟩ := ru
    simp only [toPyX, toPy, Option.some.injEq] at h
    subst h
    exact ⟨_, Reads.str x t, fun _ z => nomatch z⟩
  | .tup ds, v, u, p, r, ru, h => by
    obtain ⟨a, vs, rfl, q1, q2⟩ := Rp.sqT r sub
    cases ru
    simp only [toPyX] at h
    obtain ⟨ps, h2, rfl⟩ := Option.map_eq_some_iff.mp h
    obtain ⟨its, rv, ⟨o, ho, hc, n, hd⟩, _⟩ := I.tuple q1
    obtain ⟨as, hr, ha⟩ := Rps.reads I sub ds vs its ps q2 rv h2
    exact ⟨_, Reads.tuple ho hc hd hr, fun e => ha (by simpa only [noLst] using e)⟩
  | .lst ds, v, u, p, r, ru, h => by
    obtain ⟨a, vs, rfl, q1, q2⟩ := Rp.lstH r sub
    cases ru
    simp only [toPyX] at h
    obtain ⟨ps, h2, rfl⟩ := Option.map_eq_some_iff.mp h
    obtain ⟨its, rv, ⟨o, n, ho, hc, _, hd⟩, _⟩ := I.list (SqL.of q1)
    obtain ⟨as, hr, ha⟩ := Rps.reads I sub ds vs its ps q2 rv h2
    exact ⟨_, Reads.list ho hc hd hr, fun e => by simp [noLst] at e⟩
  | .dct ks ds, v, u, p, r, ru, h => by
    simp only [Rp] at r
    obtain ⟨a, vs, rfl, q, l, _, _⟩ := r
    cases ru
    match ks, ds, h with
    | [], [], h =>
      simp only [toPyX, Option.some.injEq] at h
      subst h
      obtain ⟨_, ns, ws, kv, o, es, ep, ho, hx, hd, _, he, _⟩ := I.hok a _ (sub _ _ q)
      have e0 : es.toList = [] := by
        have kv' : KV [] ws := kv
        cases kv'
        exact List.eq_nil_of_length_eq_zero he.length
      refine ⟨_, Reads.dict (as := []) (bs := []) ho hx.1 hd (by rw [e0]; exact ReadsAll.nil) (by rw [e0]; exact ReadsAll.nil), fun _ z => ?_⟩
      have : sysModules = a := by simpa using z
      rw [← this] at ns
      simp at ns
    | [], _ :: _, h => simp [toPyX, toPy] at h
    | _ :: _, _, h => simp [toPyX, toPy] at h
  | .scr ns, _, _, _, _, _, h => by simp [toPyX, toPy] at h
  | .obj c fs ds, _, _, _, _, _, h => by simp [toPyX, toPy] at h
  | .fn f, _, _, _, _, _, h => by simp [toPyX, toPy] at h
  | .clo _, _, _, _, _, _, h => by simp [toPyX, toPy] at h
  | .mu _, _, _, _, _, _, h => by simp [toPyX, toPy] at h
theorem Rps.reads (I : Inv X pins σ H s) (sub : SubG W.G H) : ∀ (ds : List Ev.D) (vs : List V) (us : List Value) (ps : List PyData), Rps X.K X.mg W ds vs → Vals vs us → toPyXs ds = some ps → ∃ as, ReadsAll s.heap us ps as ∧ AsOk (noLsts ds) as
  | [], vs, us, ps, r, rv, h => by
    simp only [Rps] at r
    subst r
    cases rv
    simp only [toPyXs, Option.some.injEq] at h
    subst h
    exact ⟨_, ReadsAll.nil, fun _ z => nomatch z⟩
  | d :: ds, vs, us, ps, r, rv, h => by
    simp only [Rps] at r
    obtain ⟨v, q, rfl, r1, r2⟩ := r
    cases rv with
    | cons ru rv =>
      simp only [toPyXs] at h
      split at h
      · rename_i p e1
        split at h
        · rename_i ps' e2
          cases h
          obtain ⟨as, h1, h2⟩ := Rp.reads I sub d v _ p r1 ru e1
          obtain ⟨bs, h3, h4⟩ := Rps.reads I sub ds q _ ps' r2 rv e2
          refine ⟨_, ReadsAll.cons h1 h3, fun e z => ?_⟩
          simp only [noLsts, Bool.and_eq_true] at e
          rcases List.mem_append.mp z with z | z
          · exact h2 e.1 z
          · exact h4 e.2 z
        · cases h
      · cases h
end
end
end Ev
end
section
set_option Elab.async false
set_option linter.all false
set_option maxRecDepth 100000
set_option maxHeartbeats 1000003
namespace Ev
open PySem PySem.Spec PyProof.Rows L2
variable [Gh]
section
variable {X : Cx} {WE : WX} {pins : List (Addr × Obj)} {s : Shared} {σ τ : L2.St} {H : Hp} {W : Vw} {μ : List Addr} {st : Sto} {FF : List (Addr × HO)} {Q : VK} {u v : Value} {x y z : V} {a b : D}
/-- a new list, a new dict, plain or changing -/
theorem new_at {p : Addr} (S : SA X.K X.mg FF H W μ st) {μ' : List Addr} (e : μ' = μ ++ [p]) : μ'[st.length]? = some p := by
  rw [e, ← S.len]
  simp
theorem alloc_lst {m : Bool} {p : Addr} {ds : List D} {vs : List V} (S : SA X.K X.mg FF H W μ st) (hp : H p = none) (r : Rps X.K X.mg W ds vs)
    (h : Pt X.K X.mg WE (relA X.K X.mg) FF τ W μ (alloc m (.lst ds) st) Q) : Q (.ref p) (upd H p (.lst vs)) := by
  cases m with
  | true => exact h _ _ W (μ ++ [p]) (S.new hp ⟨p, vs, rfl, upd_same, S.gnone hp, r⟩) ⟨LeW.refl _, [p], rfl⟩ ⟨p, new_at S rfl, rfl⟩
  | false => exact put_lst S hp r h
theorem alloc_dct {m : Bool} {p : Addr} {ks : List Ky} {ds : List D} {vs : List V} (S : SA X.K X.mg FF H W μ st) (hp : H p = none) (l : ks.length = ds.length) (n : ks.Nodup) (r : Rps X.K X.mg W ds vs)
    (h : Pt X.K X.mg WE (relA X.K X.mg) FF τ W μ (alloc m (.dct ks ds) st) Q) : Q (.ref p) (upd H p (.dK (ks.zip vs))) := by
  cases m with
  | true => exact h _ _ W (μ ++ [p]) (S.new hp ⟨p, vs, rfl, upd_same, S.gnone hp, l, n, r⟩) ⟨LeW.refl _, [p], rfl⟩ ⟨p, new_at S rfl, rfl⟩
  | false =>
    have le := LeW.put (o := .dK (ks.zip vs)) (S.gnone hp)
    refine h _ _ _ _ (S.put hp) ⟨le, [], by simp⟩ (Rp.a ?_)
    simp only [Rp]
    exact ⟨_, vs, rfl, upd_same, l, n, r.mono le⟩
end
section
variable (K : PySem.W.Frag) (mg : Str → Option Value) (WE : WX)
def rB (f : D → D → M D) : R2 := fun x y H Q => ∃ FF τ st W μ a b, SA K mg FF H W μ st ∧ Rpa K mg W μ a x ∧ Rpa K mg W μ b y ∧ Pt K mg WE (relA K mg) FF τ W μ (f a b st) Q
def rC (f : D → D → M Bool) : R2 := fun x y H Q => ∃ FF τ st W μ a b, SA K mg FF H W μ st ∧ Rpa K mg W μ a x ∧ Rpa K mg W μ b y ∧ Pt K mg WE relB FF τ W μ (f a b st) (fun b => Q (.bl b))
def rU (f : D → M D) : V → Hp → VK → Prop := fun x H Q => ∃ FF τ st W μ a, SA K mg FF H W μ st ∧ Rpa K mg W μ a x ∧ Pt K mg WE (relA K mg) FF τ W μ (f a st) Q
def rL (f : List D → M D) : List V → Hp → VK → Prop := fun xs H Q => ∃ FF τ st W μ as, SA K mg FF H W μ st ∧ Rpas K mg W μ as xs ∧ Pt K mg WE (relA K mg) FF τ W μ (f as st) Q
def rM (f : D → List D → M D) : V → List V → Hp → VK → Prop := fun x xs H Q => ∃ FF τ st W μ a as, SA K mg FF H W μ st ∧ Rpa K mg W μ a x ∧ Rpas K mg W μ as xs ∧ Pt K mg WE (relA K mg) FF τ W μ (f a as st) Q
def rS (m : Bool) : V → Option Int → Option Int → Hp → VK → Prop := fun x lo hi H Q => ∃ FF τ st W μ a, SA K mg FF H W μ st ∧ Rpa K mg W μ a x ∧ Pt K mg WE (relA K mg) FF τ W μ (cutO m a lo hi st) Q
def relU : Rl Unit Unit := fun _ _ _ _ => True
def rSet : V → V → V → Hp → (Hp → Prop) → Prop := fun x y z H Q => ∃ FF τ st W μ a b c, SA K mg FF H W μ st ∧ Rpa K mg W μ a x ∧ Rpa K mg W μ b y ∧ Rpa K mg W μ c z ∧ Pt K mg WE relU FF τ W μ (setD a b c st) (fun _ => Q)
def rTru : V → Hp → (Bool → Hp → Prop) → Prop := fun x H Q => ∃ FF st W μ a r, SA K mg FF H W μ st ∧ Rpa K mg W μ a x ∧ truD a st = some r ∧ Q r H
end
section
variable {X : Cx} {WE : WX}
theorem or_bin {op : Operator} : OpR X (binaryOp op) (rB X.K X.mg WE (binD op)) := by
  rintro pins s σ H x y v u Q I rx ry ⟨FF, τ, st, W, μ, a, b, S, ra, rb, h⟩
  exact bin_ok I S ra rb rx ry h
theorem or_cmp {op : CmpOp} (hu : X.A.units + 65 < cLine) : OpR X (compareOp op) (rC X.K X.mg WE (cmpD op)) := by
  rintro pins s σ H x y v u Q I rx ry ⟨FF, τ, st, W, μ, a, b, S, ra, rb, h⟩
  exact cmp_ok hu I S ra rb rx ry h
theorem ix_dk (hu : X.A.units + 65 < cLine) : IxR X (fun x y H Q => ∃ a v, x = .ref a ∧ DGet H a y (some v) ∧ Q v H) := by
  rintro value slice pins s σ H x y v u Q I rx ry ⟨a, w, rfl, g, q⟩ hs
  cases rx
  exact tail_any (dict_typeIs I g) PySem.F.slot_dict_getitem.lookup (d_getItem (by omega) I g ry fun w' s3 I3 rw' => ⟨w, H, I3, rw', q⟩) hs
theorem ix_get (hu : X.A.units + 65 < cLine) : IxR X (rB X.K X.mg WE getD) := by
  rintro value slice pins s σ H x y v u Q I rx ry ⟨FF, τ, st, W, μ, a, b, S, ra, rb, h⟩ hs
  unfold Ev.getD at h
  obtain ⟨r, hr, q⟩ := opD_pt h S
  unfold getO at hr
  split at hr
  · rename_i ds e
    split at hr
    · rename_i i
      have ra' := S.tt ra (by rw [e]; rfl)
      rw [e] at ra'
      obtain ⟨t, vs, rfl, q1, q2⟩ := Rp.sqT (show Rp X.K X.mg W (.tup ds) x from ra') S.sub
      obtain rfl : y = .int i := rb
      obtain ⟨w, g1, g2⟩ := atI_rp q2 hr
      exact ix_tup value slice pins s σ H _ _ v u Q I rx ry ⟨t, vs, i, w, rfl, rfl, q1, g1, q _ g2.a⟩ hs
    · cases hr
  · rename_i ds e
    split at hr
    · rename_i i
      have ra' := S.tt ra (by rw [e]; rfl)
      rw [e] at ra'
      obtain ⟨t, vs, rfl, q1, q2⟩ := ra'
      obtain rfl : y = .int i := rb
      obtain ⟨w, g1, g2⟩ := atI_rp q2 hr
      exact ix_list value slice pins s σ H _ _ v u Q I rx ry ⟨t, vs, i, w, rfl, rfl, SqL.of q1, g1, q _ g2.a⟩ hs
    · cases hr
  · rename_i ks ds e
    split at hr
    · rename_i k ek
      have ra' := S.tt ra (by rw [e]; rfl)
      rw [e] at ra'
      obtain ⟨t, vs, rfl, q1, q2, q3, q4⟩ := ra'
      have ey := keyD_rp ek rb
      subst ey
      obtain ⟨w, g1, g2⟩ := (getK_rp (k := k) q4 q2).2 r hr
      exact ix_dk hu value slice pins s σ H _ _ v u Q I rx ry ⟨t, w, rfl, by rw [← g1]; exact DGet.k q1, q _ g2.a⟩ hs
    · cases hr
  · cases hr
theorem set_ok (hu : X.A.units + 65 < cLine) : PSet X (rSet X.K X.mg WE) := by
  rintro pins s σ H o i w ov iv u Q I ro ri rv ⟨FF, τ, st, W, μ, a, b, c, S, ra, rb, rc, h⟩
  unfold setD at h
  cases a with
  | mu m =>
    dsimp only at h
    obtain ⟨c', st', W', S2, x', rc', h2⟩ := frz_pt S rc h
    clear h S
    have h := h2
    clear h2
    have S := S2
    clear S2
    replace ra := ra.mono x'
    replace rb := rb.mono x'
    obtain ⟨t, et, rfl⟩ := ra
    split at h
    · rename_i xs e
      obtain ⟨t', vs, q1, q2, q3, q4⟩ := S.sto m _ e
      rw [et] at q1
      cases q1
      split at h
      · rename_i k
        obtain rfl : i = .int k := rb
        split at h
        · rename_i j ej
          refine set_list pins s σ H _ _ w ov iv u Q I ro ri rv ⟨t, vs, k, j, rfl, rfl, q2, by rw [ixN_eq, ← q4.length]; exact ej, ?_⟩
          exact h () _ W' μ (S.write e rfl et ⟨t, _, rfl, upd_same, q3, q4.set rc' j⟩) (Ex2.refl _ _) trivial
        · exact False.elim h
      · exact False.elim h
    · rename_i ks xs e
      obtain ⟨t', vs, q1, q2, q3, q4, q5, q6⟩ := S.sto m _ e
      rw [et] at q1
      cases q1
      split at h
      · rename_i k ek
        split at h
        · rename_i cl
          have ey := keyD_rp ek rb
          subst ey
          obtain ⟨vs', p1, p2, p3, p4⟩ := putK_rp rc' (k := k) q6 q4 q5
          have hl : (ks.zip vs).length < sizeLine := by
            have := of_decide_eq_true cl
            have := line1m
            rw [List.length_zip]
            omega
          cases ro
          refine d_setItem (by omega) I (DPut.k q2 hl) ri rv fun s' I' => ⟨_, I', ?_⟩
          rw [p1]
          exact h () _ W' μ (S.write e rfl et ⟨t, vs', rfl, upd_same, q3, p3, p4, p2⟩) (Ex2.refl _ _) trivial
        · exact False.elim h
      · exact False.elim h
    · exact False.elim h
  | _ => exact False.elim h
theorem sIx_eq (n d : Nat) (o : Option Int) : HT.sIx n d o = sIx n d o := by
  cases o <;> rfl
theorem cut_rp {K : PySem.W.Frag} {mg : Str → Option Value} {W : Vw} {ds : List D} {vs : List V} {lo hi : Option Int} (r : Rps K mg W ds vs) : Rps K mg W (cutD ds lo hi) (cutV vs lo hi) := by
  unfold cutD cutV
  rw [r.length]
  simp only [sIx_eq]
  exact (r.drop _).take _
theorem sl_cut {m : Bool} : SlR X (rS X.K X.mg WE m) := by
  rintro pins s σ H x v vl vu lo hi sl Q I rx hs pl pu ⟨FF, τ, st, W, μ, a, S, ra, h⟩
  unfold cutO at h
  split at h
  · rename_i ds e
    have ra' := S.tt ra (by rw [e]; rfl)
    rw [e] at ra'
    have rp : Rp X.K X.mg W (.tup ds) x := ra'
    obtain ⟨t, vs, rfl, q1, q2⟩ := Rp.sqT rp S.sub
    have ql := q2.length
    refine sl_tupA pins s σ H _ v vl vu lo hi sl Q I rx hs pl pu ⟨t, vs, rfl, q1, fun hw => ?_, fun _ p hp => ?_⟩
    · refine h _ H W μ S (Ex2.refl _ _) ?_
      have : cutD ds lo hi = ds := by
        unfold cutD
        rw [← ql] at hw
        simp only [sIx_eq] at hw
        rw [hw.1, hw.2]
        simp
      rw [this]
      exact rp.a
    · have le := LeW.put (o := .tup (cutV vs lo hi)) (S.gnone hp)
      refine h _ _ _ _ (S.put hp) ⟨le, [], by simp⟩ (Rp.a ?_)
      simp only [Rp]
      exact ⟨_, _, rfl, SqT.of upd_same, (cut_rp q2).mono le⟩
  · rename_i ds e
    have ra' := S.tt ra (by rw [e]; rfl)
    rw [e] at ra'
    obtain ⟨t, vs, rfl, q1, q2⟩ := ra'
    exact sl_list pins s σ H _ v vl vu lo hi sl Q I rx hs pl pu ⟨t, vs, rfl, SqL.of q1, fun p hp => alloc_lst S hp (cut_rp q2) h⟩
  · exact False.elim h
theorem un_negD : UnR X (unaryOp .USub) (rU X.K X.mg WE fun a => match a with
    | .int i => ret (.int (-i))
    | _ => no) := by
  rintro pins s σ H x v Q I rx ⟨FF, τ, st, W, μ, a, S, ra, h⟩
  cases a with
  | int i =>
    obtain rfl : x = .int i := ra
    exact un_neg pins s σ H _ v Q I rx ⟨i, rfl, h _ H W μ S (Ex2.refl _ _) rfl⟩
  | _ => exact False.elim h
theorem tru_v {H : Hp} {x : V} {Q : Bool → Hp → Prop} (h : rTru X.K X.mg x H Q) : ∃ k, TruV X.K x H k ∧ Q k H := by
  obtain ⟨FF, st, W, μ, a, r, S, ra, e, q⟩ := h
  refine ⟨r, ?_, q⟩
  unfold truD at e
  have ra' := S.tt ra (by revert e; cases thD a st <;> simp [truO, notMut])
  have emp : ∀ {ds : List D} {vs : List V} {W : Vw}, Rps X.K X.mg W ds vs → (!ds.isEmpty) = !vs.isEmpty := fun {ds vs W} r => by
    have := r.length
    cases ds <;> cases vs <;> first | rfl | (simp at this)
  cases ed : thD a st <;> rw [ed] at e ra' <;> first | (simp [truO] at e; done) | skip
  · obtain rfl : x = .non := ra'
    simp only [truO, Option.some.injEq] at e
    exact e.symm
  · obtain rfl : x = .bl _ := ra'
    simp only [truO, Option.some.injEq] at e
    exact e.symm
  · obtain rfl : x = .int _ := ra'
    simp only [truO, Option.some.injEq] at e
    exact e.symm
  · obtain rfl : x = .str _ := ra'
    simp only [truO] at e
    split at e
    · rename_i c
      cases e
      exact ⟨Nat.le_trans (of_decide_eq_true c) line1m, rfl⟩
    · cases e
  · obtain ⟨t, vs, rfl, q1, q2⟩ := Rp.sqT (show Rp X.K X.mg W (.tup _) x from ra') S.sub
    simp only [truO, Option.some.injEq] at e
    exact .inr (.inl ⟨vs, q1, by rw [← e, emp q2]⟩)
  · obtain ⟨t, vs, rfl, q1, q2⟩ := ra'
    simp only [truO, Option.some.injEq] at e
    exact .inl ⟨vs, SqL.of q1, by rw [← e, emp q2]⟩

/-! ### built-in functions -/
theorem rpas1 {W : Vw} {μ : List Addr} {d : D} {xs : List V} (h : Rpas X.K X.mg W μ [d] xs) : ∃ x, xs = [x] ∧ Rpa X.K X.mg W μ d x := by
  obtain ⟨x, r, rfl, h1, h2⟩ := h
  obtain rfl : r = [] := h2
  exact ⟨x, rfl, h1⟩
theorem rpas2 {W : Vw} {μ : List Addr} {d e : D} {xs : List V} (h : Rpas X.K X.mg W μ [d, e] xs) : ∃ x y, xs = [x, y] ∧ Rpa X.K X.mg W μ d x ∧ Rpa X.K X.mg W μ e y := by
  obtain ⟨x, r, rfl, h1, y, r', rfl, h2, h3⟩ := h
  obtain rfl : r' = [] := h3
  exact ⟨x, y, rfl, h1, h2⟩
theorem map1 {f : D → D} {as : List D} {d : D} (h : as.map f = [d]) : ∃ a, as = [a] ∧ f a = d := by
  cases as with
  | nil => cases h
  | cons a r =>
    cases r with
    | nil => simp at h; exact ⟨a, rfl, h⟩
    | cons _ _ => simp at h
theorem map2 {f : D → D} {as : List D} {d e : D} (h : as.map f = [d, e]) : ∃ a b, as = [a, b] ∧ f a = d ∧ f b = e := by
  cases as with
  | nil => cases h
  | cons a r =>
    rw [List.map_cons] at h
    injection h with h1 h2
    obtain ⟨b, rfl, hb⟩ := map1 h2
    exact ⟨a, b, rfl, h1, hb⟩
theorem bls_of {W : Vw} : ∀ {ds : List D} {vs : List V} {bs : List Bool}, Rps X.K X.mg W ds vs → blsOf ds = some bs → vs = bs.map V.bl
  | [], _, _, r, h => by
    simp only [Rps] at r
    subst r
    simp only [blsOf, Option.some.injEq] at h
    subst h
    rfl
  | d :: ds, _, _, r, h => by
    simp only [Rps] at r
    obtain ⟨v, q, rfl, r1, r2⟩ := r
    cases d <;> first | (simp [blsOf] at h; done) | skip
    simp only [blsOf, Option.map_eq_some_iff] at h
    obtain ⟨bs, h, rfl⟩ := h
    simp only [Rp] at r1
    rw [bls_of r2 h, r1]
    rfl
theorem ints_of {W : Vw} : ∀ {ds : List D} {vs : List V} {bs : List Int}, Rps X.K X.mg W ds vs → intsOf ds = some bs → vs = bs.map V.int
  | [], _, _, r, h => by
    simp only [Rps] at r
    subst r
    simp only [intsOf, Option.some.injEq] at h
    subst h
    rfl
  | d :: ds, _, _, r, h => by
    simp only [Rps] at r
    obtain ⟨v, q, rfl, r1, r2⟩ := r
    cases d <;> first | (simp [intsOf] at h; done) | skip
    simp only [intsOf, Option.map_eq_some_iff] at h
    obtain ⟨bs, h, rfl⟩ := h
    simp only [Rp] at r1
    rw [ints_of r2 h, r1]
    rfl
def bfV : Bf → Value
  | .len => .builtin "len"
  | .repr => .builtin "repr"
  | .int => .type "int"
  | .abs => .builtin "abs"
  | .max => .builtin "max"
  | .gcd => .builtin "math.gcd"
  | .str => .type "str"
  | .tuple => .type "tuple"
  | .all => .builtin "all"
  | .any => .builtin "any"
  | .sum => .builtin "sum"
theorem cr_bi {b : Bf} (hc : X.calm = true) (hg : X.A.guards = some []) (hu : X.A.units + 80 < cLine) : CallR X (bfV b) (rL X.K X.mg WE (biD b)) := by
  rintro pins s σ H xs us Q I rs ⟨FF, τ, st, W, μ, as, S, ra, h⟩
  unfold biD at h
  obtain ⟨r, hr, q⟩ := opD_pt h S
  have seq : ∀ {d : D} {ys : List D}, as.map (thD · st) = [d] → itemsO d = some ys → ∃ t vs, xs = [.ref t] ∧ (SqT X.K H t vs ∨ SqL X.K H t vs) ∧ Rps X.K X.mg W ys vs ∧ (SqT X.K H t vs → ∀ z, d = .tup z → Rpa X.K X.mg W μ d (.ref t)) := by
    intro d ys e1 e2
    obtain ⟨a, rfl, rfl⟩ := map1 e1
    obtain ⟨x, rfl, r1⟩ := rpas1 ra
    have r2 := S.tt r1 (itemsO_nm e2)
    obtain ⟨t, vs, rfl, q1, q2⟩ := items_rp S.sub r2 e2
    refine ⟨t, vs, rfl, q1, q2, fun _ z ez => ?_⟩
    rw [ez] at r2 ⊢
    exact (show Rp X.K X.mg W (.tup z) (.ref t) from r2).a
  cases b <;> simp only [biO] at hr
  case len =>
    split at hr
    · rename_i z e
      split at hr
      · rename_i c
        cases hr
        obtain ⟨a, rfl, e'⟩ := map1 e
        obtain ⟨x, rfl, r1⟩ := rpas1 ra
        obtain rfl := str_of S r1 e'
        exact call_len_str pins s σ H _ us Q I rs ⟨z, rfl, Nat.le_trans (of_decide_eq_true c) line1m, q _ rfl⟩
      · cases hr
    · rename_i ks ds e
      cases hr
      obtain ⟨a, rfl, e'⟩ := map1 e
      obtain ⟨x, rfl, r1⟩ := rpas1 ra
      obtain ⟨t, vs, rfl, q1, q2, q3, q4⟩ := dct_of S r1 e'
      rw [Vals.ref1 rs]
      refine d_len I (.inl q1) fun t s' I' => ⟨.int _, H, I', ⟨t, rfl⟩, ?_⟩
      have : (ks.zip vs).length = ks.length := by
        have := q4.length
        rw [List.length_zip]
        omega
      rw [this]
      exact q _ rfl
    · rename_i d _ _ e
      obtain ⟨ys, e2, rfl⟩ := Option.map_eq_some_iff.mp hr
      obtain ⟨t, vs, rfl, q1, q2, _⟩ := seq e e2
      exact call_len_seq pins s σ H _ us Q I rs ⟨t, vs, rfl, q1.symm, by rw [← q2.length]; exact q _ rfl⟩
    · cases hr
  case repr =>
    split at hr
    · rename_i d e
      obtain ⟨z, e2, rfl⟩ := Option.map_eq_some_iff.mp hr
      obtain ⟨a, rfl, e'⟩ := map1 e
      obtain ⟨x, rfl, r1⟩ := rpas1 ra
      unfold reprD at e2
      split at e2
      · rename_i p ep
        split at e2
        · rename_i c
          cases e2
          obtain ⟨c, c4⟩ := Bool.and_eq_true_iff.mp c
          obtain ⟨c, c3⟩ := Bool.and_eq_true_iff.mp c
          obtain ⟨c1, c2⟩ := Bool.and_eq_true_iff.mp c
          have c1 := Nat.le_trans (of_decide_eq_true c1) line1m
          have c3 := of_decide_eq_true c3
          have r2 := S.th r1 (by rw [e']; exact toPyX_pure ep)
          rw [e'] at r2
          obtain ⟨u, rfl, ru⟩ := vals1 rs
          have q' : ∀ {s' : Shared} {t : Tok}, Inv X pins σ H s' → EP X pins σ Q (.str p.shown t) s' := fun {s' t} I' => ⟨.str p.shown, H, I', ⟨t, rfl⟩, q _ rfl⟩
          obtain ⟨as, rd, has⟩ := Rp.reads I (W := W.at H) (SubG.refl H) _ x u p r2 ru ep
          have nd : p.hasDict = true → sysModules ∉ as := fun z => has (by
            rw [z] at c4
            simpa using c4)
          have big : ∀ {t : Addr}, u = .ref t → wpAny (model X.prog X.w) X.A (call (.builtin "repr") [u]) (EP X pins σ Q) X.xe s := fun {t} eu => by
            subst eu
            exact repr_of_reads' rd c2 nd hg (by omega) (fun _ _ h => h) (fun h' u tk hk => q' (I.kept hk)) c1
          cases rd with
          | none => exact P.repr_of_none (q' (I.tok _))
          | bool b =>
            have := @q' { s with toks := s.toks + 1 } s.toks (I.tok _)
            exact P.repr_of_bool (by cases b <;> exact this)
          | int i t => exact P.repr_of_int (by simpa [PyData.showable] using c2) (q' (I.tok _))
          | str z t => exact P.repr_of_str (q' (I.tok _)) c1
          | list _ _ _ _ => exact big rfl
          | tuple _ _ _ _ => exact big rfl
          | dict _ _ _ _ _ => exact big rfl
        · cases e2
      · cases e2
    · cases hr
  case int =>
    split at hr
    · rename_i i e
      cases hr
      obtain ⟨a, rfl, e'⟩ := map1 e
      obtain ⟨x, rfl, r1⟩ := rpas1 ra
      obtain rfl := int_of S r1 e'
      exact call_int1 pins s σ H _ us Q I rs (.inl ⟨i, rfl, q _ rfl⟩)
    · cases hr
  case abs =>
    split at hr
    · rename_i i e
      cases hr
      obtain ⟨a, rfl, e'⟩ := map1 e
      obtain ⟨x, rfl, r1⟩ := rpas1 ra
      obtain rfl := int_of S r1 e'
      exact call_abs pins s σ H _ us Q I rs ⟨i, rfl, q _ rfl⟩
    · cases hr
  case max =>
    split at hr
    · rename_i i j e
      cases hr
      obtain ⟨a, b, rfl, e1, e2⟩ := map2 e
      obtain ⟨x, y, rfl, r1, r2⟩ := rpas2 ra
      obtain rfl := int_of S r1 e1
      obtain rfl := int_of S r2 e2
      exact call_max2 hc pins s σ H _ us Q I rs ⟨i, j, rfl, q _ rfl⟩
    · cases hr
  case gcd =>
    split at hr
    · rename_i i j e
      cases hr
      obtain ⟨a, b, rfl, e1, e2⟩ := map2 e
      obtain ⟨x, y, rfl, r1, r2⟩ := rpas2 ra
      obtain rfl := int_of S r1 e1
      obtain rfl := int_of S r2 e2
      exact cr_gcd pins s σ H _ us Q I rs ⟨i, j, rfl, q _ rfl⟩
    · cases hr
  case str =>
    split at hr
    · rename_i i e
      split at hr
      · rename_i c
        cases hr
        obtain ⟨a, rfl, e'⟩ := map1 e
        obtain ⟨x, rfl, r1⟩ := rpas1 ra
        obtain rfl := int_of S r1 e'
        exact call_str_int pins s σ H _ us Q I rs ⟨i, rfl, of_decide_eq_true c, q _ rfl⟩
      · cases hr
    · cases hr
  case tuple =>
    split at hr
    · rename_i d e
      obtain ⟨ys, e2, rfl⟩ := Option.map_eq_some_iff.mp hr
      have hb : Pt X.K X.mg WE (relA X.K X.mg) FF τ W μ (opD (some (.tup ys)) st) Q := by
        have eb : biO .tuple (as.map (thD · st)) = some (.tup ys) := by
          rw [e]
          simp only [biO, e2, Option.map_some]
        rw [eb] at h
        exact h
      obtain ⟨a, rfl, e'⟩ := map1 e
      obtain ⟨x, rfl, r1⟩ := rpas1 ra
      have newt : ∀ {vs : List V} {l : Addr}, Rps X.K X.mg W ys vs → H l = none → Q (.ref l) (upd H l (.tup vs)) := fun {vs l} r hl => by
        have le := LeW.put (o := .tup vs) (S.gnone hl)
        refine hb _ _ _ _ (S.put hl) ⟨le, [], by simp⟩ (Rp.a ?_)
        simp only [Rp]
        exact ⟨_, _, rfl, SqT.of upd_same, r.mono le⟩
      have r2 := S.tt r1 (by rw [e']; exact itemsO_nm e2)
      rw [e'] at r2
      cases d <;> first | (simp [itemsO] at e2; done) | skip
      · simp only [itemsO, Option.some.injEq] at e2
        subst e2
        have r3 : Rp X.K X.mg W (.tup _) x := r2
        obtain ⟨t, vs, rfl, q1, q2⟩ := Rp.sqT r3 S.sub
        exact call_tuple_of pins s σ H _ us Q I rs ⟨t, vs, rfl, .inr ⟨q1, q _ r3.a⟩⟩
      · simp only [itemsO, Option.some.injEq] at e2
        subst e2
        obtain ⟨t, vs, rfl, q1, q2⟩ := r2
        exact call_tuple_of pins s σ H _ us Q I rs ⟨t, vs, rfl, .inl ⟨SqL.of q1, fun l hl => newt q2 hl⟩⟩
      · simp only [itemsO, Option.some.injEq] at e2
        subst e2
        have r3 : Rp X.K X.mg W (.scr _) x := r2
        simp only [Rp] at r3
        obtain ⟨t, rfl, q1⟩ := r3
        exact call_tuple_of pins s σ H _ us Q I rs ⟨t, _, rfl, .inl ⟨sqL_sub S.sub q1, fun l hl => newt (Rps.of_ints _) hl⟩⟩
    · cases hr
  case all =>
    split at hr
    · rename_i ds e
      obtain ⟨bs, e2, rfl⟩ := Option.map_eq_some_iff.mp hr
      obtain ⟨a, rfl, e'⟩ := map1 e
      obtain ⟨x, rfl, r1⟩ := rpas1 ra
      obtain ⟨t, vs, rfl, q1, q2⟩ := lst_of S r1 e'
      obtain rfl := bls_of q2 e2
      exact cr_all hc pins s σ H _ us Q I rs ⟨t, bs, rfl, SqL.of q1, q _ rfl⟩
    · cases hr
  case any =>
    split at hr
    · rename_i ds e
      obtain ⟨bs, e2, rfl⟩ := Option.map_eq_some_iff.mp hr
      obtain ⟨a, rfl, e'⟩ := map1 e
      obtain ⟨x, rfl, r1⟩ := rpas1 ra
      obtain ⟨t, vs, rfl, q1, q2⟩ := lst_of S r1 e'
      obtain rfl := bls_of q2 e2
      exact cr_any hc pins s σ H _ us Q I rs ⟨t, bs, rfl, SqL.of q1, q _ rfl⟩
    · cases hr
  case sum =>
    split at hr
    · rename_i ds e
      obtain ⟨bs, e2, rfl⟩ := Option.map_eq_some_iff.mp hr
      obtain ⟨a, rfl, e'⟩ := map1 e
      obtain ⟨x, rfl, r1⟩ := rpas1 ra
      obtain ⟨t, vs, rfl, q1, q2⟩ := lst_of S r1 e'
      obtain rfl := ints_of q2 e2
      exact cr_sum hc pins s σ H _ us Q I rs ⟨t, bs, rfl, SqL.of q1, q _ rfl⟩
    · cases hr
end
end Ev
end
section
set_option Elab.async false
set_option linter.all false
set_option maxRecDepth 100000
set_option maxHeartbeats 1000003
namespace Ev
open PySem PySem.Spec PyProof.Rows L2
variable [Gh]
section
variable {X : Cx} {WE : WX}
def bmV : Bm → Value
  | .list => .type "list"
  | .sorted => .builtin "sorted"
  | .dict => .type "dict"
theorem insI_perm (x : Int) : ∀ l : List Int, (insI x l).Perm (x :: l)
  | [] => .refl _
  | y :: ys => by
    unfold insI
    split
    · exact .refl _
    · exact ((insI_perm x ys).cons y).trans (.swap x y ys)
theorem sortI_perm : ∀ l : List Int, (sortI l).Perm l
  | [] => .refl _
  | x :: l => (insI_perm x (sortI l)).trans ((sortI_perm l).cons x)
theorem insI_sorted (x : Int) : ∀ l : List Int, l.Pairwise (· ≤ ·) → (insI x l).Pairwise (· ≤ ·)
  | [], _ => by simp [insI]
  | y :: ys, h => by
    unfold insI
    have h' := List.pairwise_cons.mp h
    split
    · rename_i c
      refine List.pairwise_cons.mpr ⟨fun z hz => ?_, h⟩
      rcases List.mem_cons.mp hz with e | hz
      · rw [e]; exact c
      · exact Int.le_trans c (h'.1 z hz)
    · rename_i c
      refine List.pairwise_cons.mpr ⟨fun z hz => ?_, insI_sorted x ys h'.2⟩
      rcases List.mem_cons.mp ((insI_perm x ys).mem_iff.mp hz) with e | hz
      · rw [e]; omega
      · exact h'.1 z hz
theorem sortI_sorted : ∀ l : List Int, (sortI l).Pairwise (· ≤ ·)
  | [] => .nil
  | x :: l => insI_sorted x _ (sortI_sorted l)
theorem sortI_uniq {l l' : List Int} (p : l'.Perm l) (s : l'.Pairwise (· ≤ ·)) : l' = sortI l :=
  List.Perm.eq_of_pairwise (le := (· ≤ ·)) (fun a b _ _ h1 h2 => Int.le_antisymm h1 h2) s (sortI_sorted l) (p.trans (sortI_perm l).symm)
theorem cr_mk {b : Bm} {m : Bool} : CallR X (bmV b) (rL X.K X.mg WE (mkD b m)) := by
  rintro pins s σ H xs us Q I rs ⟨FF, τ, st, W, μ, as, S, ra, h⟩
  unfold mkD at h
  cases b <;> simp only [mkO] at h
  case list =>
    split at h
    · rename_i o ho
      split at ho
      · rename_i d e
        obtain ⟨ys, e2, rfl⟩ := Option.map_eq_some_iff.mp ho
        obtain ⟨a, rfl, e'⟩ := map1 e
        obtain ⟨x, rfl, r1⟩ := rpas1 ra
        have r2 := S.tt r1 (by rw [e']; exact itemsO_nm e2)
        rw [e'] at r2
        obtain ⟨t, vs, rfl, q1, q2⟩ := items_rp S.sub r2 e2
        exact call_list_of pins s σ H _ us Q I rs ⟨t, vs, rfl, q1.symm, fun l hl => alloc_lst S hl q2 h⟩
      · cases ho
    · exact False.elim h
  case sorted =>
    split at h
    · rename_i o ho
      split at ho
      · rename_i ds e
        obtain ⟨is, e2, rfl⟩ := Option.map_eq_some_iff.mp ho
        obtain ⟨a, rfl, e'⟩ := map1 e
        obtain ⟨x, rfl, r1⟩ := rpas1 ra
        obtain ⟨t, vs, rfl, q1, q2⟩ := lst_of S r1 e'
        obtain rfl := ints_of q2 e2
        refine cr_sortedI pins s σ H _ us Q I rs ⟨t, is, rfl, SqL.of q1, fun ns' p h1 h2 hp => ?_⟩
        rw [sortI_uniq h1 h2]
        exact alloc_lst S hp (Rps.of_ints _) h
      · cases ho
    · exact False.elim h
  case dict =>
    split at h
    · rename_i o ho
      split at ho
      · rename_i ks ds e
        cases ho
        obtain ⟨a, rfl, e'⟩ := map1 e
        obtain ⟨x, rfl, r1⟩ := rpas1 ra
        obtain ⟨t, vs, rfl, q1, q2, q3, q4⟩ := dct_of S r1 e'
        exact call_dictD pins s σ H _ us Q I rs ⟨t, _, rfl, .inl q1, fun l hl => alloc_dct S hl q2 q3 q4 h⟩
      · cases ho
    · exact False.elim h
def meN : Me → String
  | .append => "list.append"
  | .insert => "list.insert"
  | .pop => "list.pop"
  | .bits => "int.bit_length"
theorem mu_lst {FF : List (Addr × HO)} {H : Hp} {W : Vw} {μ : List Addr} {st : Sto} {k : Nat} {x : V} {ys : List D} (S : SA X.K X.mg FF H W μ st) (r : Rpa X.K X.mg W μ (.mu k) x) (e : st[k]? = some (.lst ys)) :
    ∃ a vs, x = .ref a ∧ μ[k]? = some a ∧ H a = some (.lst vs) ∧ W.G a = none ∧ Rps X.K X.mg W ys vs := by
  obtain ⟨a, ea, rfl⟩ := r
  obtain ⟨a', vs, q1, q2, q3, q4⟩ := S.sto k _ e
  rw [ea] at q1
  cases q1
  exact ⟨a, vs, rfl, ea, q2, q3, q4⟩
theorem mt_append' : MtR X "list.append" (rM X.K X.mg WE fun a xs => metD a .append xs) := by
  rintro pins s σ H x xs v us Q I rx rs ⟨FF, τ, st, W, μ, a, as, S, ra, ras, h⟩
  unfold metD at h
  dsimp only at h
  split at h
  · rename_i k d
    obtain ⟨y, rfl, ry⟩ := rpas1 ras
    obtain ⟨d', st', W', S2, x', ry', h2⟩ := frz_pt S ry h
    clear h S
    have h := h2
    clear h2
    have S := S2
    clear S2
    split at h
    · rename_i ys e
      split at h
      · rename_i c
        obtain ⟨t, vs, rfl, et, q1, q2, q3⟩ := mu_lst S (ra.mono x') e
        refine mt_append pins s σ H _ _ v us Q I rx rs ⟨t, vs, y, rfl, rfl, q1, by have := of_decide_eq_true c; have := line1m; rw [← q3.length]; omega, ?_⟩
        exact h _ _ W' μ (S.write e rfl et ⟨t, _, rfl, upd_same, q2, q3.app (Rps.cons ry' Rps.nil)⟩) (Ex2.refl _ _) rfl
      · exact False.elim h
    · exact False.elim h
  · exact False.elim h
theorem mt_insert' : MtR X "list.insert" (rM X.K X.mg WE fun a xs => metD a .insert xs) := by
  rintro pins s σ H x xs v us Q I rx rs ⟨FF, τ, st, W, μ, a, as, S, ra, ras, h⟩
  unfold metD at h
  dsimp only at h
  split at h
  · rename_i k i d
    obtain ⟨z, y, rfl, rz, ry⟩ := rpas2 ras
    obtain ⟨d', st', W', S2, x', ry', h2⟩ := frz_pt S ry h
    clear h S
    have h := h2
    clear h2
    have S := S2
    clear S2
    split at h
    · rename_i ei
      have ei := of_decide_eq_true ei
      subst ei
      split at h
      · rename_i ys e
        split at h
        · rename_i c
          obtain ⟨t, vs, rfl, et, q1, q2, q3⟩ := mu_lst S (ra.mono x') e
          obtain rfl : z = .int 0 := rz
          refine mt_insert pins s σ H _ _ v us Q I rx rs ⟨t, vs, 0, y, rfl, rfl, q1, by have := of_decide_eq_true c; have := line1m; rw [← q3.length]; omega, by omega, by omega, ?_⟩
          exact h _ _ W' μ (S.write e rfl et ⟨t, _, rfl, upd_same, q2, by simpa using Rps.cons ry' q3⟩) (Ex2.refl _ _) rfl
        · exact False.elim h
      · exact False.elim h
    · exact False.elim h
  · exact False.elim h
theorem mt_pop' : MtR X "list.pop" (rM X.K X.mg WE fun a xs => metD a .pop xs) := by
  rintro pins s σ H x xs v us Q I rx rs ⟨FF, τ, st, W, μ, a, as, S, ra, ras, h⟩
  unfold metD at h
  dsimp only at h
  split at h
  · rename_i k i
    split at h
    · rename_i ys e
      split at h
      · rename_i j ej
        split at h
        · rename_i d ed
          obtain ⟨t, vs, rfl, et, q1, q2, q3⟩ := mu_lst S ra e
          obtain ⟨z, rfl, rz⟩ := rpas1 ras
          obtain rfl : z = .int i := rz
          obtain ⟨w, ew, rw'⟩ := q3.get ed
          rw [q3.length] at ej
          obtain ⟨h1, h2, h3, h4⟩ := ixN_seq ej
          have hl : vs.length ≤ sizeLine := (I.lstM q1).1
          have := line63
          refine mt_popAt pins s σ H _ _ v us Q I rx rs ⟨t, vs, i, j, w, rfl, rfl, q1, by omega, by omega, h1, ew, ?_⟩
          exact h _ _ W μ (S.write e rfl et ⟨t, _, rfl, upd_same, q2, q3.erase j⟩) (Ex2.refl _ _) rw'.a
        · exact False.elim h
      · exact False.elim h
    · exact False.elim h
  · exact False.elim h

/-! ### isinstance -/
structure IsaOk (K : PySem.W.Frag) (mg : Str → Option Value) (isa : Str → Str → Option Bool) : Prop where
  own : ∀ c t b C T, isa c t = some b → mg c = some (.ref C) → mg t = some (.ref T) → PySem.W.kitOne K (.ref C) (.ref T) = some b
  ty : ∀ t T, (isa t t).isSome = true → mg t = some (.ref T) → ∀ n ∈ "NoneType" :: tyNs, PySem.W.kitOne K (.type n) (.ref T) = some false
/-- a class that is asked for, as a value -/
def KdV (mg : Str → Option Value) : Kd → V → Value → Prop
  | .ty n, c, u => n ∈ tyNs ∧ c = .ty n ∧ u = .type n
  | .own t, c, u => ∃ T, mg t = some (.ref T) ∧ c = .ref T ∧ u = .ref T
theorem KdV.cls {mg : Str → Option Value} {k : Kd} {c : V} {u : Value} (h : KdV mg k c u) : ClsV c u := by
  cases k with
  | ty n =>
    obtain ⟨_, rfl, rfl⟩ := h
    exact .ty n
  | own t =>
    obtain ⟨T, _, rfl, rfl⟩ := h
    exact .own T
/-- the type of data -/
def tyD (mg : Str → Option Value) (K : PySem.W.Frag) : D → Value → Prop
  | .non, t => t = .type "NoneType"
  | .bl _, t => t = .type "bool"
  | .int _, t => t = .type "int"
  | .str _, t => t = .type "str"
  | .tup _, t => t = .type "tuple"
  | .lst _, t => t = .type "list"
  | .dct _ _, t => t = .type "dict"
  | .obj c fs _, t => ∃ C, mg c = some (.ref C) ∧ ClsOk K C fs ∧ t = .ref C
  | _, _ => False
theorem tupTy {H : Hp} {a : Addr} {vs : List V} (h : SqT X.K H a vs) : TyX X.K H (.ref a) (.type "tuple") := by
  rcases h with (h | ⟨o, h⟩) | ⟨o, its, n, h1, h2, _⟩
  · exact .base (.tup h)
  · exact .fTuple h
  · exact .kTuple h1 h2
theorem tyD_ok {W : Vw} {H : Hp} {d : D} {x : V} (sub : SubG W.G H) (r : Rpt X.K X.mg H W d x) (h : (isiB d "").isSome = true) : ∃ t, TyX X.K H x t ∧ tyD X.mg X.K d t := by
  cases d <;> first | (simp [isiB] at h; done) | skip
  · obtain rfl : x = .non := r
    exact ⟨_, .base .non, rfl⟩
  · obtain rfl : x = .bl _ := r
    exact ⟨_, .base (.bl _), rfl⟩
  · obtain rfl : x = .int _ := r
    exact ⟨_, .base (.int _), rfl⟩
  · obtain rfl : x = .str _ := r
    exact ⟨_, .base (.str _), rfl⟩
  · obtain ⟨t, vs, rfl, q1, q2⟩ := Rp.sqT (show Rp X.K X.mg W (.tup _) x from r) sub
    exact ⟨_, tupTy q1, rfl⟩
  · obtain ⟨t, vs, rfl, q1, q2⟩ := r
    exact ⟨_, .base (.lst q1), rfl⟩
  · obtain ⟨t, vs, rfl, q1, q2⟩ := r
    exact ⟨_, .base (.dK q1), rfl⟩
  · have r' : Rp X.K X.mg W (.obj _ _ _) x := r
    simp only [Rp] at r'
    obtain ⟨a, C, dx, vs, rfl, q1, q2, q3, q4, q5⟩ := r'
    exact ⟨_, .base (.ins (sub _ _ q3) q2.cl q2.ha q2.hn q2.htk q2.hm), C, q1, q2, rfl⟩
theorem kit_all {K : PySem.W.Frag} {n m : String} (hn : n ∈ "NoneType" :: tyNs) (hm : m ∈ tyNs) : PySem.W.kitOne K (.type n) (.type m) = some (n == m || (n == "bool" && m == "int")) := by
  simp only [tyNs, List.mem_cons, List.not_mem_nil, or_false] at hn hm
  rcases hn with rfl | rfl | rfl | rfl | rfl | rfl | rfl <;> rcases hm with rfl | rfl | rfl | rfl | rfl | rfl <;> exact kit_ty (by decide +kernel)
theorem kit_one {isa : Str → Str → Option Bool} (io : IsaOk X.K X.mg isa) {d : D} {t u : Value} {k : Kd} {c : V} {b : Bool} (hd : tyD X.mg X.K d t) (hk : KdV X.mg k c u) (h : isiD isa d k = some b) : PySem.W.kitOne X.K t u = some b := by
  cases k with
  | ty n =>
    obtain ⟨hn, rfl, rfl⟩ := hk
    simp only [isiD, if_pos hn] at h
    cases d <;> first | (simp [isiB] at h; done) | skip
    all_goals simp only [isiB, Option.some.injEq] at h
    case obj c' fs xs =>
      obtain ⟨C, h1, h2, rfl⟩ := hd
      rw [← h]
      exact h2.kb n hn
    all_goals
      cases hd
      rw [kit_all (by simp [tyNs]) hn, ← h]
      simp only [tyNs, List.mem_cons, List.not_mem_nil, or_false] at hn
      rcases hn with rfl | rfl | rfl | rfl | rfl | rfl <;> rfl
  | own z =>
    obtain ⟨T, hT, rfl, rfl⟩ := hk
    cases d <;> first | (simp [isiD, isiB] at h; done) | skip
    case obj c' fs xs =>
      obtain ⟨C, h1, h2, rfl⟩ := hd
      exact io.own _ _ _ _ _ h h1 hT
    all_goals
      cases hd
      simp only [isiD, isiB] at h
      split at h
      · rename_i c
        cases h
        exact io.ty _ _ c hT _ (by simp [tyNs])
      · cases h
theorem isiD_some {isa : Str → Str → Option Bool} {d : D} {k : Kd} {b : Bool} (h : isiD isa d k = some b) : (isiB d "").isSome = true := by
  cases k with
  | ty n =>
    simp only [isiD] at h
    split at h
    · cases d <;> first | rfl | (simp [isiB] at h)
    · cases h
  | own z => cases d <;> first | rfl | (simp [isiD, isiB] at h)
/-- the classes that are asked for -/
inductive KdVs (mg : Str → Option Value) : List Kd → List V → List Value → Prop where
  | nil : KdVs mg [] [] []
  | cons {k : Kd} {ks : List Kd} {c : V} {cs : List V} {u : Value} {us : List Value} (h : KdV mg k c u) (t : KdVs mg ks cs us) : KdVs mg (k :: ks) (c :: cs) (u :: us)
theorem kit_many {isa : Str → Str → Option Bool} (io : IsaOk X.K X.mg isa) {d : D} {t : Value} (hd : tyD X.mg X.K d t) : ∀ {ks : List Kd} {cs : List V} {us : List Value} {b : Bool}, KdVs X.mg ks cs us → isiAny isa d ks = some b → PySem.W.kitAny X.K t us = some b
  | _, _, _, _, .nil, h => by
    simp only [isiAny, Option.some.injEq] at h
    subst h
    rfl
  | _, _, _, _, .cons k t, h => by
    unfold isiAny at h
    split at h
    · rename_i e
      cases h
      exact kitAny_cons (kit_one io hd k e) (fun z => nomatch z) (fun _ => rfl)
    · rename_i e
      exact kitAny_cons (kit_one io hd k e) (fun _ => kit_many io hd t h) (fun z => nomatch z)
    · cases h
theorem KdVs.paired {mg : Str → Option Value} : ∀ {ks : List Kd} {cs : List V} {us : List Value}, KdVs mg ks cs us → Paired ClsV cs us
  | _, _, _, .nil => .nil
  | _, _, _, .cons h t => .cons h.cls t.paired
def isiF (isa : Str → Str → Option Bool) (ts : List Kd) (x : D) : M D := fun s => opD ((isiAny isa (thD x s) ts).map .bl) s
/-- isinstance(x, T) -/
def rI1 (K : PySem.W.Frag) (mg : Str → Option Value) (WE : WX) (isa : Str → Str → Option Bool) (k : Kd) : List V → Hp → VK → Prop := fun xs H Q => ∃ FF τ st W μ a x c u, xs = [x, c] ∧ KdV mg k c u ∧ SA K mg FF H W μ st ∧ Rpa K mg W μ a x ∧ Pt K mg WE (relA K mg) FF τ W μ (isiF isa [k] a st) Q
def rIT (K : PySem.W.Frag) (mg : Str → Option Value) (WE : WX) (isa : Str → Str → Option Bool) (ks : List Kd) : List V → Hp → VK → Prop := fun xs H Q => ∃ FF τ st W μ a x cs us tp, xs = [x, .ref tp] ∧ H tp = some (.tup cs) ∧ KdVs mg ks cs us ∧ ks ≠ [] ∧ SA K mg FF H W μ st ∧ Rpa K mg W μ a x ∧ Pt K mg WE (relA K mg) FF τ W μ (isiF isa ks a st) Q
theorem isiAny_some {isa : Str → Str → Option Bool} {d : D} {k : Kd} {ks : List Kd} {b : Bool} (h : isiAny isa d (k :: ks) = some b) : (isiB d "").isSome = true := by
  unfold isiAny at h
  split at h
  · rename_i e
    exact isiD_some e
  · rename_i e
    exact isiD_some e
  · cases h
theorem isiB_nm {d : D} (h : (isiB d "").isSome = true) : notMut d = true := by
  cases d <;> first | rfl | (simp [isiB] at h)
theorem cr_isi {isa : Str → Str → Option Bool} (io : IsaOk X.K X.mg isa) {k : Kd} : CallR X (.builtin "isinstance") (rI1 X.K X.mg WE isa k) := by
  rintro pins s σ H xs us Q I rs ⟨FF, τ, st, W, μ, a, x, c, u, rfl, hk, S, ra, h⟩
  unfold isiF at h
  obtain ⟨r, hr, q⟩ := opD_pt h S
  obtain ⟨b, eb, rfl⟩ := Option.map_eq_some_iff.mp hr
  have hs := isiAny_some eb
  obtain ⟨t, h1, h2⟩ := tyD_ok S.sub (S.tt ra (isiB_nm hs)) hs
  refine call_isi pins s σ H _ us Q I rs ⟨x, c, t, u, b, rfl, hk.cls, h1, ?_, q _ rfl⟩
  unfold isiAny at eb
  split at eb
  · rename_i e
    cases eb
    exact kit_one io h2 hk e
  · rename_i e
    simp only [isiAny, Option.some.injEq] at eb
    rw [← eb]
    exact kit_one io h2 hk e
  · cases eb
theorem cr_isiT {isa : Str → Str → Option Bool} (io : IsaOk X.K X.mg isa) {ks : List Kd} : CallR X (.builtin "isinstance") (rIT X.K X.mg WE isa ks) := by
  rintro pins s σ H xs us Q I rs ⟨FF, τ, st, W, μ, a, x, cs, ws, tp, rfl, hT, hk, hne, S, ra, h⟩
  unfold isiF at h
  obtain ⟨r, hr, q⟩ := opD_pt h S
  obtain ⟨b, eb, rfl⟩ := Option.map_eq_some_iff.mp hr
  cases ks with
  | nil => exact absurd rfl hne
  | cons k ks =>
    have hs := isiAny_some eb
    obtain ⟨t, h1, h2⟩ := tyD_ok S.sub (S.tt ra (isiB_nm hs)) hs
    exact call_isiT pins s σ H _ us Q I rs ⟨x, tp, cs, t, ws, b, rfl, hT, hk.paired, h1, kit_many io h2 hk eb, q _ rfl⟩
end
end Ev
end
section
set_option Elab.async false
set_option linter.all false
set_option maxRecDepth 100000
namespace Ev
open PySem
/-- what is known of the text a term is held against -/
structure MC where
  N : List Str
  sc : Scope
  ts : Scope
  fns : List Str
  cns : List Str
  gcd : Bool
  exn : List Str := []
  lam : Nat → Option Lam := fun _ => none
  top : Bool := false
/-- in a comprehension's block -/
def MC.blk (m : MC) (scope : Scope) : MC := { m with sc := L2.relS scope m.sc, ts := scope, top := false }
/-- in a lambda's body -/
def MC.lm (m : MC) (scope : Scope) : MC := { m with sc := scope, ts := scope, top := false }
/-- slots of captured names -/
def cellsB (m : MC) : List Nat → Bool
  | [] => true
  | i :: r => (match m.N[i]? with
    | some y => decide (m.sc.names.lookup y = some .cell)
    | none => false) && cellsB m r
/-- the lambda's names: captured ones and globals -/
def lamB (sc scope : Scope) : Bool :=
  decide (scope.kind = .function) && !scope.isCoroutine && !scope.isGenerator && scope.names.all fun y => !decide (y.2 = .local) && !decide (y.2 = .cell) && (!decide (y.2 = .free) || decide (sc.names.lookup y.1 = some .cell))
/-- a lambda without parameters -/
def noParB : Arguments → Bool
  | ⟨[], [], none, [], [], none, []⟩ => true
  | _ => false
def visB (sc : Scope) (x : Str) : Bool := match sc.names.lookup x with
  | some .local => true
  | some .cell => true
  | some .free => true
  | _ => false
def locB (sc : Scope) (x : Str) : Bool := match sc.names.lookup x with
  | some .local => true
  | some .cell => true
  | _ => false
def glB (sc : Scope) (x : Str) : Bool := decide (sc.names.lookup x = some .globalImplicit)
def undB (x : Str) : Bool := !(x == ("__debug__" : Str)) && !(x == ("__classdict__" : Str)) && !decide (x = "__name__")
def varB (m : MC) (i : Nat) (x : Str) : Bool := decide (m.N[i]? = some x) && visB m.sc x && undB x
def tgtB (m : MC) (i : Nat) (x : Str) : Bool := decide (m.N[i]? = some x) && locB m.ts x
def gloB (m : MC) (x y : Str) : Bool := decide (x = y) && glB m.sc x && undB x
def nst : Expr → Bool
  | .Starred .. => false
  | _ => true
def nbt : Expr → Bool
  | .UnaryOp .Not _ _ => false
  | .BoolOp .. => false
  | .IfExp .. => false
  | .Compare .. => false
  | _ => true
def nsl : Expr → Bool
  | .Slice .. => false
  | _ => true
def nset : Expr → Bool
  | .Set .. => false
  | _ => true
def nsup : Expr → Bool
  | .Call _ [] [] _ => false
  | _ => true
def nlc : Expr → Bool
  | .ListComp .. => false
  | .SetComp .. => false
  | .DictComp .. => false
  | _ => true
def bfN : Bf → Str
  | .len => "len"
  | .repr => "repr"
  | .int => "int"
  | .abs => "abs"
  | .max => "max"
  | .gcd => "gcd"
  | .str => "str"
  | .tuple => "tuple"
  | .all => "all"
  | .any => "any"
  | .sum => "sum"
def bmN : Bm → Str
  | .list => "list"
  | .sorted => "sorted"
  | .dict => "dict"
def meS : Me → Str
  | .append => "append"
  | .insert => "insert"
  | .pop => "pop"
  | .bits => "bit_length"
def kdB (m : MC) : Kd → Expr → Bool
  | .ty n, .Name x _ => decide (n ∈ tyNs) && gloB m (Str.ofString n) x
  | .own t, .Name x _ => gloB m t x && m.cns.contains t
  | _, _ => false
def kdsB (m : MC) : List Kd → List Expr → Bool
  | [], [] => true
  | k :: ks, x :: xs => kdB m k x && kdsB m ks xs
  | _, _ => false
def cstB : Cst → Const → Bool
  | .non, .none => true
  | .bl b, .bool c => b == c
  | .int i, .int j => decide (i = j)
  | .str x, .str y => decide (x = y)
  | _, _ => false
def keyB : Ky → Option Expr → Bool
  | .inl i, some (.Constant (.int j) _ _) => decide (i = j)
  | .inr x, some (.Constant (.str y) _ _) => decide (x = y)
  | _, _ => false
def keysB : List Ky → List (Option Expr) → Bool
  | [], [] => true
  | k :: ks, x :: xs => keyB k x && keysB ks xs
  | _, _ => false
/-- a store's list that is also its iterable's: stored ahead of the block's end -/
def swB (sc : Scope) : Expr → Expr → Bool
  | .ListComp _ _ s p, .Name t q => decide (sc.names.lookup t = some .local) && (q.line == p.line) && !(s.names.any fun (n, k) => n == t && (k == .local || k == .cell))
  | _, _ => false
mutual
def mtE (m : MC) (c : E) (a : Expr) : Bool := match c with
  | .c k => (match a with
    | .Constant v _ _ => cstB k v
    | _ => false)
  | .v i => (match a with
    | .Name x _ => varB m i x
    | _ => false)
  | .g x => (match a with
    | .Name y _ => gloB m x y
    | _ => false)
  | .tup es => (match a with
    | .Tuple xs _ _ => mtEs m es xs && decide (xs.length ≤ 100000)
    | _ => false)
  | .lst _ es => (match a with
    | .List xs _ => mtEs m es xs && decide (xs.length ≤ 100000)
    | _ => false)
  | .dct _ ks es => (match a with
    | .Dict kx vx _ => keysB ks kx && mtEs m es vx && decide (kx.length = vx.length) && decide (kx.length ≤ 15)
    | _ => false)
  | .bin op x y => (match a with
    | .BinOp p o q _ => decide (op = o) && mtE m x p && mtE m y q
    | _ => false)
  | .neg x => (match a with
    | .UnaryOp .USub p _ => mtE m x p
    | _ => false)
  | .cmp op x y => (match a with
    | .Compare p [o] [q] _ => decide (op = o) && mtE m x p && mtE m y q && nset q
    | _ => false)
  | .chain op op' x y z => (match a with
    | .Compare p [o, o'] [q, r] _ => decide (op = o) && decide (op' = o') && mtE m x p && mtE m y q && mtE m z r && nset r
    | _ => false)
  | .andv x y => (match a with
    | .BoolOp .And (p :: q :: r) pos => mtE m x p && (match r with
      | [] => mtE m y q
      | _ => mtE m y (.BoolOp .And (q :: r) pos))
    | _ => false)
  | .orv x y => (match a with
    | .BoolOp .Or (p :: q :: r) pos => mtE m x p && (match r with
      | [] => mtE m y q
      | _ => mtE m y (.BoolOp .Or (q :: r) pos))
    | _ => false)
  | .notv x => (match a with
    | .UnaryOp .Not p _ => mtE m x p
    | _ => false)
  | .ife t x y => (match a with
    | .IfExp c p q _ => mtT m t c && mtE m x p && mtE m y q
    | _ => false)
  | .ix x y => (match a with
    | .Subscript p q _ => mtE m x p && mtE m y q && nsl q
    | _ => false)
  | .sl _ x lo hi => (match a with
    | .Subscript p (.Slice l h none _) _ => mtE m x p && mtO m lo l && mtO m hi h
    | _ => false)
  | .fld x f => (match a with
    | .Attribute p g _ => mtE m x p && decide (f = g) && nsup p
    | _ => false)
  | .call f es => (match a with
    | .Call (.Name x _) xs [] _ => gloB m f x && m.fns.contains f && mtEs m es xs
    | _ => false)
  | .mk f es => (match a with
    | .Call (.Name x _) xs [] _ => gloB m f x && m.fns.contains f && mtEs m es xs
    | _ => false)
  | .bi b es => (match a with
    | .Call (.Name x _) xs [] _ => gloB m (bfN b) x && mtEs m es xs && !xs.isEmpty && (!decide (b = .gcd) || m.gcd)
    | _ => false)
  | .mkb b _ es => (match a with
    | .Call (.Name x _) xs [] _ => gloB m (bmN b) x && mtEs m es xs && !xs.isEmpty
    | _ => false)
  | .met x f es => (match a with
    | .Call (.Attribute p g ap) xs [] cp => mtE m x p && decide (meS f = g) && mtEs m es xs && (ap.endLine == cp.line) && nsup p && decide (xs.length < 30) && (decide (f = .bits) == xs.isEmpty)
    | _ => false)
  | .isi x ts => (match a with
    | .Call (.Name y _) [p, q] [] _ => gloB m "isinstance" y && mtE m x p && nst p && nst q && (match q with
      | .Tuple cs _ _ => kdsB m ts cs && !ts.isEmpty && decide (ts.length ≤ 100)
      | q => (match ts with
        | [t] => kdB m t q
        | _ => false))
    | _ => false)
  | .comp _ own tg it cs elt => (match a with
    | .ListComp x [⟨t, i, fs, z⟩] scope _ => decide (z = 0) && L2.blkC m.N m.sc scope own && mtIt m it i t && nset i && mtTg (m.blk scope) (own.map (·.2)) tg t && mtTs (m.blk scope) cs fs && mtE (m.blk scope) elt x
    | _ => false)
  | .cal i es => (match a with
    | .Call (.Name x _) xs [] _ => varB m i x && mtEs m es xs
    | _ => false)
  | .callC f es is => (match a with
    | .Call (.Name x _) xs [] _ => m.top && gloB m f x && m.fns.contains f && mtEs m es xs && cellsB m is && decide is.Nodup && !xs.isEmpty
    | _ => false)
  | .xf _ => false
def mtEs (m : MC) (c : Es) (a : List Expr) : Bool := match c with
  | .nil => (match a with
    | [] => true
    | _ => false)
  | .cons e r => (match a with
    | x :: xs => mtE m e x && nst x && mtEs m r xs
    | _ => false)
def mtO (m : MC) (c : Es) (a : Option Expr) : Bool := match c with
  | .nil => (match a with
    | none => true
    | _ => false)
  | .cons e r => (match a with
    | some x => mtE m e x && mtO m r none
    | _ => false)
def mtT (m : MC) (c : T) (a : Expr) : Bool := match c with
  | .val e => nbt a && mtE m e a
  | .cmp op x y => (match a with
    | .Compare p [o] [q] _ => decide (op = o) && mtE m x p && mtE m y q && nset q
    | _ => false)
  | .chain op op' x y z => (match a with
    | .Compare p [o, o'] [q, r] _ => decide (op = o) && decide (op' = o') && mtE m x p && mtE m y q && mtE m z r && nset r
    | _ => false)
  | .and x y => (match a with
    | .BoolOp .And (p :: q :: r) pos => mtT m x p && (match r with
      | [] => mtT m y q
      | _ => mtT m y (.BoolOp .And (q :: r) pos))
    | _ => false)
  | .or x y => (match a with
    | .BoolOp .Or (p :: q :: r) pos => mtT m x p && (match r with
      | [] => mtT m y q
      | _ => mtT m y (.BoolOp .Or (q :: r) pos))
    | _ => false)
  | .not x => (match a with
    | .UnaryOp .Not p _ => mtT m x p
    | _ => false)
def mtTs (m : MC) (c : Ts) (a : List Expr) : Bool := match c with
  | .nil => (match a with
    | [] => true
    | _ => false)
  | .cons t r => (match a with
    | [x] => mtT m t x && mtTs m r []
    | _ => false)
def mtIt (m : MC) (c : It) (a tg : Expr) : Bool := match c with
  | .seq e => mtE m e a
  | .rng es => (match a with
    | .Call (.Name x _) xs [] _ => gloB m "range" x && mtEs m es xs && decide (xs.length = 1 ∨ xs.length = 2)
    | _ => false)
  | .enum e => (match a with
    | .Call (.Name x _) [y] [] _ => gloB m "enumerate" x && mtE m e y && nst y && (match tg with
      | .Tuple .. => true
      | _ => false)
    | _ => false)
  | .zip es => (match a with
    | .Call (.Name x _) xs [] _ => gloB m "zip" x && mtEs m es xs && decide (xs.length = 2) && (match tg with
      | .Tuple .. => true
      | _ => false)
    | _ => false)
def mtTg (m : MC) (vs : List Nat) (c : Tg) (a : Expr) : Bool := match c with
  | .name i => (match a with
    | .Name x _ => tgtB m i x && decide (i ∈ vs)
    | _ => false)
  | .tup ts => (match a with
    | .Tuple xs _ _ => mtTgs m vs ts xs
    | _ => false)
  | .ix _ _ => false
def mtTgs (m : MC) (vs : List Nat) (c : Tgs) (a : List Expr) : Bool := match c with
  | .nil => (match a with
    | [] => true
    | _ => false)
  | .cons t r => (match a with
    | x :: xs => mtTg m vs t x && nst x && mtTgs m vs r xs
    | _ => false)
end
/-- a target of a plain assignment -/
def mtA (m : MC) (c : Tg) (a : Expr) : Bool := match c with
  | .ix x y => (match a with
    | .Subscript p q _ => mtE m x p && mtE m y q && nsl q
    | _ => false)
  | c => mtTg m (List.range m.N.length) c a
def namesB (m : MC) : List Nat → List Expr → Bool
  | [], [] => true
  | i :: is, .Name x _ :: xs => decide (m.N[i]? = some x) && decide (m.sc.names.lookup x = some .local) && namesB m is xs
  | _, _ => false
/-- all targets are local names -/
def allLoc (m : MC) : List Expr → Bool
  | [] => true
  | .Name x _ :: r => decide (m.sc.names.lookup x = some .local) && allLoc m r
  | _ => false
def onLine (l : Nat) : List Expr → Bool
  | [] => true
  | x :: xs => (x.pos.line == l) && onLine l xs
def exName : Expr → Str
  | .Name x _ => x
  | _ => Str.empty
/-- what a handler gives back: constants and fields of the exception named n -/
def mtX (n : Str) : Es → List Expr → Bool
  | .nil, [] => true
  | .cons (.c (.str s)) r, .Constant (.str v) _ _ :: xs => decide (s = v) && mtX n r xs
  | .cons (.xf f) r, .Attribute (.Name y _) g _ :: xs => decide (f = g) && decide (y = n) && mtX n r xs
  | _, _ => false
def mtHs (m : MC) (n : Str) : Hs → List ExceptHandler → Bool
  | .nil, [] => true
  | .cons c (.tup es) r, .ExceptHandler (some (.Name x _)) (some y) [.Return (some (.Tuple xs _ _)) _] _ :: hs => gloB m c x && m.exn.contains c && decide (y = n) && mtX n es xs && decide (xs.length ≤ 100) && mtHs m n r hs
  | _, _ => false
/-- the lambda l is known by this body -/
def mtL (m : MC) (l : Nat) (b : Expr) (sc : Scope) : Bool := match m.lam l with
  | some L => decide (L.nl = m.N.length) && mtE (m.lm sc) L.body b && sc.names.all fun y => !decide (y.2 = .free) || L.fv.any fun i => decide (m.N[i]? = some y.1)
  | none => false
mutual
def mtS (m : MC) (c : S) (a : Stmt) : Bool := match c with
  | .asg t e => (match a with
    | .Assign [g] x _ => mtA m t g && mtE m e x && nst g && (nlc x || !swB m.sc x g || (match t with
      | .name _ => true
      | _ => false)) && (match g, x with
      | .Tuple gs _ _, .Tuple .. => !allLoc m gs
      | .List .., _ => false
      | _, _ => true)
    | _ => false)
  | .par is es => (match a with
    | .Assign [.Tuple gs _ _] (.Tuple xs _ _) _ => namesB m is gs && mtEs m es xs && decide (gs.length = xs.length) && decide (gs.length = 2 ∨ gs.length = 3) && onLine ((gs.head?.map (·.pos.line)).getD 0) gs && decide is.Nodup && !xs.all (foldedForSure 8) && !xs.all (constantsAlone 8)
    | _ => false)
  | .aug _ _ _ => false
  | .exp e => (match a with
    | .Expr x _ => mtE m e x && nlc x
    | _ => false)
  | .rtn e => (match a with
    | .Return (some x) _ => mtE m e x
    | _ => false)
  | .rtnN => (match a with
    | .Return none _ => true
    | _ => false)
  | .ite t x y => (match a with
    | .If c p q _ => mtT m t c && mtSs m x p && mtSs m y q
    | _ => false)
  | .for_ t it b => (match a with
    | .For g i p [] _ => mtTg m (List.range m.N.length) t g && mtIt m it i g && nset i && mtSs m b p
    | _ => false)
  | .whl t b => (match a with
    | .While c p [] _ => mtT m t c && mtSs m b p
    | _ => false)
  | .rse c es => (match a with
    | .Raise (some (.Call (.Name x _) xs [] _)) none _ => gloB m c x && m.exn.contains c && mtEs m es xs && !xs.isEmpty
    | _ => false)
  | .try_ i b hs => (match a with
    | .Try p hds [] [] _ => (match m.N[i]? with
      | some n => decide (m.sc.names.lookup n = some .local) && undB n && mtSs m b p && mtHs m n hs hds && !hds.isEmpty
      | none => false)
    | _ => false)
  | .lamN i l e => (match a with
    | .Assign [.Name x _] (.List [.Tuple [.Lambda ps b sc _, y] _ _] _) _ => m.top && tgtB m i x && noParB ps && lamB m.sc sc && mtL m l b sc && mtE m e y && nst y
    | _ => false)
  | .lamA i l e => (match a with
    | .Expr (.Call (.Attribute (.Name x _) f ap) [.Tuple [.Lambda ps b sc _, y] _ _] [] cp) _ => m.top && varB m i x && decide (f = "append") && noParB ps && lamB m.sc sc && mtL m l b sc && mtE m e y && nst y && (ap.endLine == cp.line)
    | _ => false)
  | .pass => (match a with
    | .Pass _ => true
    | _ => false)
  | .brk => (match a with
    | .Break _ => true
    | _ => false)
  | .cont => (match a with
    | .Continue _ => true
    | _ => false)
def mtSs (m : MC) (c : Ss) (a : List Stmt) : Bool := match c with
  | .nil => (match a with
    | [] => true
    | _ => false)
  | .cons s r => (match a with
    | x :: xs => mtS m s x && mtSs m r xs
    | _ => false)
end
end Ev
end
section
set_option Elab.async false
set_option linter.all false
set_option maxRecDepth 100000
set_option maxHeartbeats 4000003
namespace Ev
open PySem PySem.Spec PyProof.Rows L2
/-! ### an own exception class: Base.__init__(self, text), then fields -/
/-- Base, whose __init__ is ValueError's -/
structure BasX (K : PySem.W.Frag) (B : Addr) : Prop where
  r1 : PySem.W.readsIn K B (.type "type") = true
  r2 : PySem.W.findCls K (.ref B) (.type "type") "__init__" = some (.val (.builtin "ValueError.__init__"))
  r3 : PySem.W.specialIn K (.ref B) "__getattribute__" = some (some (.builtin "type.__getattribute__"))
section
variable {X : Cx} {B : Addr} {hx : Str} {e : Expr} {es : List Expr} {ta : TA} {p1 p2 pos : Pos}
theorem pe_hinit {pl : Sem Bool} (b : BasX X.K B) (hg : L2.Gl X hx) (hm : X.mg hx = some (.ref B)) (hd : (hx == ("__debug__" : Str)) = false) (ha : PA X (e :: es) ta)
    (hs1 : starEach (e :: es) X.env = (false, eval e X.env) :: starEach es X.env) (hs2 : (backTo pos (starEach es X.env)).any (·.1) = false)
    (hev : eval (.Call (.Attribute (.Name hx p1) "__init__" p2) (e :: es) [] pos) X.env = (do let o ← eval (.Name hx p1) X.env; standAt p2.atName; let (f, first) ← holding [o] (getMethod o "__init__" pl); callWith pos f first (backTo pos (starEach (e :: es) X.env)) (backToKw pos (keywordEach [] X.env))) := by rfl) : PE X (.Call (.Attribute (.Name hx p1) "__init__" p2) (e :: es) [] pos) (tVeI X.K ta) := by
  refine ⟨fun pins s σ H Q I h => PySem.W.methodCall_KW (ld_glob I hg hm (PySem.W.method_cls I.kIn b.r3 (PySem.W.cls_value I.kIn b.r1 b.r2 rfl ?_)) hd) hev⟩
  refine PyProof.Rows.callWith_method1 (pos := pos) (thn (ha.run pos pins _ σ H _ (I.tok _) h) fun us s1 hq => ?_) hs1 hs2
  obtain ⟨vs, H1, J, rl, a, C, ws, rfl, hl, oc, at_, q⟩ := hq
  cases rl with
  | @cons _ w0 _ wr h0 hr =>
    have w0e : w0 = Value.ref a := h0
    subst w0e
    exact oinit_ok oc J at_ (by rw [← Paired.length hr, sizeLine_eq]; omega) fun s2 J2 => ⟨V.non, H1, J2, rfl, q⟩
end
theorem init_eval {h s' x : Str} {p1 p2 p3 p4 p5 : Pos} {j : Nat} {env : Env} (hl : (p2.endLine == p5.line) = true) :
    eval (.Call (.Attribute (.Name h p1) "__init__" p2) [.Name s' p3, .Constant (.str x) j p4] [] p5) env = (do let o ← eval (.Name h p1) env; standAt p2.atName; let (f, first) ← holding [o] (getMethod o "__init__" (plainOf (.Name h p1) env)); callWith p5 f first (backTo p5 (starEach [.Name s' p3, .Constant (.str x) j p4] env)) (backToKw p5 (keywordEach [] env))) := by
  have e1 : eval (.Call (.Attribute (.Name h p1) "__init__" p2) [.Name s' p3, .Constant (.str x) j p4] [] p5) env = (do let o ← eval (.Name h p1) env; standAt p2.atName; methodCall (.Name h p1) "__init__" p2 p5 env o 2 (backTo p5 (starEach [.Name s' p3, .Constant (.str x) j p4] env)) (backToKw p5 (keywordEach [] env))) := rfl
  rw [e1]
  congr 1
  funext o
  congr 1
  funext _
  exact mcall_line rfl hl
/-! ### the stores -/
def stB (N : List Str) (sc : Scope) : List (Str × Nat) → List Stmt → Bool
  | [], [] => true
  | (f, i) :: r, .Assign [.Attribute (.Name s _) g _] (.Name x _) _ :: b => decide (N[0]? = some s) && decide (f = g) && decide (N[i]? = some x) && decide (sc.names.lookup s = some .local) && decide (sc.names.lookup x = some .local) && !(s == ("__debug__" : Str)) && !(s == ("__classdict__" : Str)) && !(x == ("__debug__" : Str)) && !(x == ("__classdict__" : Str)) && stB N sc r b
  | _, _ => false
def tSt (K : PySem.W.Frag) : List (Str × Nat) → TS
  | [] => tNext
  | (f, i) :: r => tSeq (tOst K f (tVar 0) (tVar i)) (tSt K r)
theorem pss_st {X : Cx} : ∀ {r : List (Str × Nat)} {b : List Stmt}, stB X.N X.env.scope r b = true → PSs X b (tSt X.K r)
  | [], [], _ => pss_nil
  | [], _ :: _, h => by simp [stB] at h
  | (f, i) :: r, [], h => by simp [stB] at h
  | (f, i) :: r, s :: b, h => by
    cases s <;> first | (simp [stB] at h; done) | skip
    rename_i ts v pos
    match ts, h with
    | [.Attribute (.Name s p1) g p2], h =>
      cases v <;> first | (simp [stB] at h; done) | skip
      simp only [stB, Bool.and_eq_true, Bool.not_eq_true', decide_eq_true_eq] at h
      obtain ⟨⟨⟨⟨⟨⟨⟨⟨⟨h1, rfl⟩, h2⟩, h3⟩, h4⟩, h5⟩, h6⟩, h7⟩, h8⟩, h9⟩ := h
      exact pss_cons (ps_ost (pe_var h1 (.inl h3) h5 h6) (pe_var h2 (.inl h4) h7 h8) rfl) (pss_st h9)
    | [], h => simp [stB] at h
    | [.Name ..], h => simp [stB] at h
    | _ :: _ :: _, h => simp [stB] at h
theorem tSt_go {K : PySem.W.Frag} {a C dx : Addr} (T : OexC K C) {σ : L2.St} {D : Ends} (h0 : σ[0]? = some (some (.ref a))) (ne : dx ≠ a) : ∀ (r : List (Str × Nat)) (ws : List V) (acc : List (Str × V)) (H : Hp), H a = some (exo a C (some dx)) → H dx = some (exd dx acc) → acc.length + r.length ≤ 900 →
    (∀ p ∈ r, PySem.W.findIn K (.ref C) p.1 = some none) → (∀ (j : Nat) (p : Str × Nat), r[j]? = some p → ∃ w, ws[j]? = some w ∧ σ[p.2]? = some (some w)) → ws.length = r.length →
    (∀ H', H' a = some (exo a C (some dx)) → H' dx = some (exd dx (((r.map (·.1)).zip ws).reverse ++ acc)) → (∀ b, b ≠ a → b ≠ dx → H' b = H b) → D.nx σ H') → tSt K r D σ H
  | [], ws, acc, H, e1, e2, _, _, _, _, q => q H e1 (by simpa using e2) fun _ _ _ => rfl
  | (f, i) :: r, ws, acc, H, e1, e2, hl, hn, hv, hw, q => by
    obtain ⟨w, hw0, hs⟩ := hv 0 _ rfl
    cases ws with
    | nil => simp at hw
    | cons w' ws =>
      cases hw0
      refine ⟨w, hs, .ref a, h0, a, C, rfl, T, hn (f, i) List.mem_cons_self, .inr ⟨dx, acc, e1, e2, by simp at hl; omega, ?_⟩⟩
      have na : upd H dx (exd dx ((f, w) :: acc)) a = some (exo a C (some dx)) := by rw [upd_ne (Ne.symm ne)]; exact e1
      refine tSt_go T h0 ne r ws ((f, w) :: acc) _ na upd_same (by simp at hl ⊢; omega) (fun p hp => hn p (List.mem_cons_of_mem _ hp)) (fun j p hj => hv (j + 1) p hj) (by simpa using hw) fun H' q1 q2 q3 => q H' q1 ?_ fun b b1 b2 => (q3 b b1 b2).trans (upd_ne b2)
      simpa using q2
/-- what __init__ is to do -/
def spX (K : PySem.W.Frag) (C : Addr) (fs : List Str) : Sp := fun vs H Q E => ∃ a ws, vs = .ref a :: ws ∧ ws.length = fs.length ∧ H a = some (exo a C none) ∧
  ∀ d H2, H d = none → d ≠ a → H2 a = some (exo a C (some d)) → H2 d = some (exd d ((fs.zip ws).reverse)) → (∀ b, b ≠ a → b ≠ d → H2 b = H b) → Q .non H2
theorem tSt_all {K : PySem.W.Frag} {a C : Addr} (T : OexC K C) {σ : L2.St} {D : Ends} {H : Hp} {r : List (Str × Nat)} {ws : List V} (h0 : σ[0]? = some (some (.ref a))) (hr : r ≠ []) (e1 : H a = some (exo a C none)) (hl : r.length ≤ 900) (hn : ∀ p ∈ r, PySem.W.findIn K (.ref C) p.1 = some none)
    (hv : ∀ (j : Nat) (p : Str × Nat), r[j]? = some p → ∃ w, ws[j]? = some w ∧ σ[p.2]? = some (some w)) (hw : ws.length = r.length)
    (q : ∀ d H', H d = none → d ≠ a → H' a = some (exo a C (some d)) → H' d = some (exd d (((r.map (·.1)).zip ws).reverse)) → (∀ b, b ≠ a → b ≠ d → H' b = H b) → D.nx σ H') : tSt K r D σ H := by
  cases r with
  | nil => exact absurd rfl hr
  | cons p r =>
    obtain ⟨f, i⟩ := p
    obtain ⟨w, hw0, hs⟩ := hv 0 _ rfl
    cases ws with
    | nil => simp at hw
    | cons w' ws =>
      cases hw0
      refine ⟨w, hs, .ref a, h0, a, C, rfl, T, hn (f, i) List.mem_cons_self, .inl ⟨e1, fun dx n ne => ?_⟩⟩
      refine tSt_go T h0 ne r ws [(f, w)] _ upd_same (by rw [upd_ne ne, upd_same]) (by simp at hl ⊢; omega) (fun p hp => hn p (List.mem_cons_of_mem _ hp)) (fun j p hj => hv (j + 1) p hj) (by simpa using hw) fun H' q1 q2 q3 => q dx H' n ne q1 (by simpa using q2) fun b b1 b2 => (q3 b b1 b2).trans ?_
      rw [upd_ne b1, upd_ne b2]
/-- __init__'s body -/
def initB (mgx : Str) (N : List Str) (sc : Scope) (r : List (Str × Nat)) : List Stmt → Bool
  | .Expr (.Call (.Attribute (.Name h _) i q) [.Name s _, .Constant (.str _) _ _] [] p) _ :: b => (q.endLine == p.line) && decide (h = mgx) && decide (i = "__init__") && !(h == ("__debug__" : Str)) && decide (sc.names.lookup h = some .globalImplicit) && decide (N[0]? = some s) && decide (sc.names.lookup s = some .local) && !(s == ("__debug__" : Str)) && !(s == ("__classdict__" : Str)) && stB N sc r b
  | _ => false
/-- an own exception class, its fields in order -/
structure ExcC (K : PySem.W.Frag) (mg : Str → Option Value) (P : Program) (w : World) (base : Heap) (c : Str) (fs : List Str) : Prop where
  ok : ∃ C fI fd ps, mg c = some (.ref C) ∧ OexC K C ∧ XfC K C ∧ (∀ f ∈ fs, PySem.W.findIn K (.ref C) f = some none) ∧ PySem.W.findIn K (.ref C) "__init__" = some (some (.ref fI)) ∧ PySem.W.typeIn K (.ref fI) = some (.type "function") ∧
    FnOk P w K mg base C8.CX0 1 fI fd ps (spX K C fs) ∧ Binds K fd ps [] ∧ fs.Nodup ∧ fs.length ≤ 900
theorem iota_get {α : Type} {l : List α} : ∀ (n j : Nat) (p : α × Nat), (l.zipIdx n)[j]? = some p → l[j]? = some p.1 ∧ p.2 = n + j := fun n j p h => by
  rw [List.getElem?_zipIdx] at h
  obtain ⟨x, hx, rfl⟩ := Option.map_eq_some_iff.mp h
  exact ⟨hx, rfl⟩
/-- by its text -/
theorem init_fn {P : Program} {w : World} {K : PySem.W.Frag} {mg : Str → Option Value} {base : Heap} {f C B : Addr} {qual hx : Str} {params : Arguments} {body : List Stmt} {scope : Scope} {dV kV doc pm cdv ct oc : Value} {an od : Option Addr}
    {osl : Array (Option Value)} {N : List Str} {fs : List Str} (lk : K.lookup f = some ⟨oc, od, .func (PySem.W.fnOf "__init__" qual params body scope dV kV doc pm an cdv ct), osl⟩) (hcd : PySem.W.codeIn K cdv qual = true) (S : FnScope N N scope)
    (T : OexC K C) (b : BasX K B) (hm : mg hx = some (.ref B)) (hN : N.length = fs.length + 1) (hne : fs ≠ []) (h900 : fs.length ≤ 900) (hno : ∀ g ∈ fs, PySem.W.findIn K (.ref C) g = some none) (hb : initB hx N scope (fs.zipIdx 1) body = true) :
    FnOk P w K mg base C8.CX0 1 f (PySem.W.fnOf "__init__" qual params body scope dV kV doc pm an cdv ct) N (spX K C fs) := by
  refine fn_of lk hcd S (fun vs H Q E ⟨a, ws, e, l, _⟩ => by rw [e, List.length_cons, l, hN]) fun A outer s H vs Q E hr ⟨a, ws, ev, el, ha, q⟩ => ?_
  subst ev
  have hsc : (cxOf C8.CX0 P w K mg base N qual scope f cdv A outer s H E).env.scope = scope := rfl
  unfold initB at hb
  split at hb
  · rename_i h p1 i p2 s' p3 x j p4 p5 p6 rest
    simp only [Bool.and_eq_true, Bool.not_eq_true', decide_eq_true_eq] at hb
    obtain ⟨⟨⟨⟨⟨⟨⟨⟨⟨h0, rfl⟩, rfl⟩, h3⟩, h4⟩, h5⟩, h6⟩, h7⟩, h8⟩, h9⟩ := hb
    have pv : PE (cxOf C8.CX0 P w K mg base N qual scope f cdv A outer s H E) (.Name s' p3) (tVar 0) := pe_var h5 (.inl h6) h7 h8
    refine ⟨_, pss_cons (ps_expr (pe_hinit (X := cxOf C8.CX0 P w K mg base N qual scope f cdv A outer s H E) b h4 hm h3 (pa_cons pv (pa_cons pe_str pa_nil rfl) rfl) rfl rfl (init_eval h0)) rfl) (pss_st h9), ?_⟩
    refine ⟨.ref a, by simp [L2.start], ?_⟩
    show ∃ a_1 C_1 ws_1, _
    refine ⟨a, C, [V.str x], rfl, by simp, T, ha, ?_⟩
    refine tSt_all (ws := ws) T (by simp [L2.start]) ?_ ha (by simpa using h900) (fun p hp => hno _ ?_) (fun j p hp => ?_) (by simpa using el) fun d H' n ne q1 q2 q3 => ?_
    · intro e
      apply hne
      cases fs with
      | nil => rfl
      | cons _ _ => simp at e
    · obtain ⟨j, hj⟩ := List.getElem?_of_mem hp
      exact List.mem_of_getElem? (iota_get 1 j p hj).1
    · obtain ⟨e1, e2⟩ := iota_get 1 j p hp
      have hj : j < ws.length := by
        rw [el]
        exact (List.getElem?_eq_some_iff.mp e1).1
      refine ⟨ws[j], by simp [hj], ?_⟩
      rw [e2, Nat.add_comm]
      simp only [L2.start, List.map_cons, List.cons_append, List.getElem?_cons_succ]
      rw [List.getElem?_append_left (by simpa using hj)]
      simp [hj]
    · refine q d H' n ne q1 ?_ q3
      rw [q2]
      have : (fs.zipIdx 1).map (·.1) = fs := by simp
      rw [this]
  · cases hb
end Ev
end
section
set_option Elab.async false
set_option linter.all false
set_option maxRecDepth 100000
set_option maxHeartbeats 1000003
namespace Ev
open PySem PySem.Spec PyProof.Rows L2
variable [Gh]
structure RoomG (k : Nat) (A : Around) : Prop where
  r : Room k A
  g : A.guards = some []
section
variable (K : PySem.W.Frag) (mg : Str → Option Value)
/-- an answer, with the end of exceptions told -/
def PtX {α β : Type} (rel : Rl α β) (FF : List (Addr × HO)) (W : Vw) (μ : List Addr) (r : R α) (Q : β → Hp → Prop) (E : XK) : Prop :=
  match r with
  | .ok d st' => ∀ v H' W' μ', SA K mg FF H' W' μ' st' → Ex2 W μ W' μ' → rel W' μ' d v → Q v H'
  | .exc x st' => ∀ H' W' μ' cls dd, SA K mg FF H' W' μ' st' → Ex2 W μ W' μ' → ExR K mg W' x cls dd → E cls dd H'
  | .no => False
theorem Pt.x {α β : Type} {rel : Rl α β} {FF : List (Addr × HO)} {W : Vw} {μ : List Addr} {r : R α} {Q : β → Hp → Prop} {WE : WX} {σ : L2.St} (h : Pt K mg WE rel FF σ W μ r Q) : PtX K mg rel FF W μ r Q (fun cls dd H => WE cls dd σ H) := by
  cases r <;> exact h
/-- what a call of data wants -/
def spG (fn : List D → M D) : Sp := fun vs H Q E => ∃ FF st W μ ds, SA K mg FF H W μ st ∧ Rpas K mg W μ ds vs ∧ PtX K mg (relA K mg) FF W μ (fn ds st) Q E
/-- the callee at a keeps it, at k calls deep -/
def FnC (P : Program) (w : World) (base : Heap) (k : Nat) (a : Addr) (fn : List D → M D) : Prop :=
  ∀ (A : Around) (outer : List Env) (s : Shared) (H : Hp) (us : List Value) (vs : List V) (Q : VK) (E : XK), RoomG k A → Env0 P w K mg base A outer s H → Vals vs us → spG K mg fn vs H Q E →
    codeAny (model P w) A (.call (.ref a) ⟨us, []⟩) (CR (L2.CX P w) outer P w H s Q E) s
/-- what a closure's call wants -/
def spC (l : Nat) (ev : M D) (f : Addr) (H : Hp) (Q : VK) (E : XK) : Prop := ∃ FF st W μ, SA K mg FF H W μ st ∧ Rp K mg W (.clo l) (.ref f) ∧ PtX K mg (relA K mg) FF W μ (ev st) Q E
/-- closures l keep it, at k calls deep -/
def CloC (P : Program) (w : World) (base : Heap) (k : Nat) (l : Nat) (ev : M D) : Prop :=
  ∀ (A : Around) (outer : List Env) (s : Shared) (H : Hp) (f : Addr) (Q : VK) (E : XK), RoomG k A → Env0 P w K mg base A outer s H → spC K mg l ev f H Q E →
    codeAny (model P w) A (.call (.ref f) ⟨[], []⟩) (CR (L2.CX P w) outer P w H s Q E) s
/-- closures are functions -/
def CloF : Prop := ∀ l f o c oc, Gh.P l f o c oc → ∃ c1 od fd osl, o = cellO f (⟨c1, od, .func fd, osl⟩ : Obj)
end
/-- the frame whose closures are at hand -/
structure TopOk (m : MC) (X : Cx) : Prop where
  inv : ∀ i a, Gh.S i = some a → ∃ y, m.N[i]? = some y ∧ X.env.cells.lookup y = some a
  get : ∀ i y, m.N[i]? = some y → m.sc.names.lookup y = some .cell → ∃ a, X.env.cells.lookup y = some a ∧ Gh.S i = some a
  fnT : ∀ y, X.fn y = true
  sj : ∀ i j a, Gh.S i = some a → Gh.S j = some a → i = j
  mkC : ∀ l f ps b sc pm c' ctv, noParB ps = true → lamB m.sc sc = true → mtL m l b sc = true → Gh.P l f (cellO f (PySem.W.kla_obj "<lambda>" (X.env.qual ++ "<lambda>") ps b sc (cloFrom X.env.cells sc.names []) pm c' ctv)) c' (LamX.CodeO c' (X.env.qual ++ "<lambda>"))
def bNs : List Str := ["len", "repr", "int", "abs", "max", "str", "tuple", "all", "any", "sum", "list", "sorted", "dict", "isinstance", "range", "enumerate", "zip", "bool"]
structure CtxOk (C : Cx') (m : MC) (X : Cx) (WE : WX) (k : Nat) : Prop where
  hN : X.N = m.N
  nd : m.N.Nodup
  hsc : X.env.scope = m.sc
  calm : X.calm = true
  room : RoomG k X.A
  tk : Takes X WE
  tl : ∀ x, locB m.ts x = true → L2.Loc X.env.scope x ∧ (X.fn x = true ∨ X.env.scope.names.lookup x = some .local)
  con : ∀ x d, C.con x = some d → ∃ v u, X.mg x = some u ∧ RelV v u ∧ ∀ W μ, Rpa X.K X.mg W μ d v
  isa : IsaOk X.K X.mg C.isa
  cns : ∀ c ∈ m.cns, ∃ T, X.mg c = some (.ref T)
  bn : ∀ b ∈ bNs, X.mg b = none
  gcd : m.gcd = true → X.mg "gcd" = some (.builtin "math.gcd")
  fns : ∀ f ∈ m.fns, ∃ a, X.mg f = some (.ref a) ∧ PySem.W.keepIn X.K (.ref a) = true
  fnc : ∀ f a, X.mg f = some (.ref a) → FnC X.K X.mg X.prog X.w X.base k a (C.orc.fn f)
  clo : ∀ l, CloC X.K X.mg X.prog X.w X.base k l (C.orc.clo l)
  clf : CloF
  top : m.top = true → TopOk m X
  k2 : 2 ≤ k
  exc : ∀ c ∈ m.exn, ∃ fs, C.exs c = some fs ∧ ExcC X.K X.mg X.prog X.w X.base c fs
  exm : ∀ c c', (C.exs c).isSome = true → c' ∈ m.exn → ∀ A B, X.mg c = some (.ref A) → X.mg c' = some (.ref B) → PySem.W.exmOne X.K (.ref A) (.ref B) = some (decide (c = c'))
section
variable {C : Cx'} {m : MC} {X : Cx} {WE : WX} {k : Nat}
theorem CtxOk.gl (c : CtxOk C m X WE k) {x y : Str} (h : gloB m x y = true) : x = y ∧ L2.Gl X x ∧ (x == ("__debug__" : Str)) = false ∧ x ≠ "__name__" := by
  unfold gloB undB at h
  obtain ⟨h, h3⟩ := Bool.and_eq_true_iff.mp h
  obtain ⟨h1, h2⟩ := Bool.and_eq_true_iff.mp h
  obtain ⟨h3, h5⟩ := Bool.and_eq_true_iff.mp h3
  obtain ⟨h3, h4⟩ := Bool.and_eq_true_iff.mp h3
  refine ⟨of_decide_eq_true h1, ?_, by simpa using h3, by simpa using h5⟩
  unfold L2.Gl Env.kindOf
  rw [c.hsc]
  exact of_decide_eq_true h2
theorem CtxOk.var (c : CtxOk C m X WE k) {x : Str} {i : Nat} (h : varB m i x = true) : X.N[i]? = some x ∧ Vis X.env.scope x ∧ (x == ("__debug__" : Str)) = false ∧ (x == ("__classdict__" : Str)) = false := by
  unfold varB undB at h
  obtain ⟨h, h3⟩ := Bool.and_eq_true_iff.mp h
  obtain ⟨h1, h2⟩ := Bool.and_eq_true_iff.mp h
  obtain ⟨h3, h5⟩ := Bool.and_eq_true_iff.mp h3
  obtain ⟨h3, h4⟩ := Bool.and_eq_true_iff.mp h3
  refine ⟨by rw [c.hN]; exact of_decide_eq_true h1, ?_, by simpa using h3, by simpa using h4⟩
  unfold visB at h2
  rw [c.hsc]
  unfold Vis
  split at h2 <;> first | (rename_i e; rw [e]; simp; done) | cases h2
theorem CtxOk.tgt (c : CtxOk C m X WE k) {x : Str} {i : Nat} (h : tgtB m i x = true) : X.N[i]? = some x ∧ L2.Loc X.env.scope x ∧ (X.fn x = true ∨ X.env.scope.names.lookup x = some .local) := by
  unfold tgtB at h
  obtain ⟨h1, h2⟩ := Bool.and_eq_true_iff.mp h
  exact ⟨by rw [c.hN]; exact of_decide_eq_true h1, c.tl x h2⟩
theorem CtxOk.hu (c : CtxOk C m X WE k) : X.A.units + 100 < cLine := by
  have := c.room.r.un
  omega
theorem nst_each {e : Expr} (h : nst e = true) (es : List Expr) (env : Env) : starEach (e :: es) env = (false, eval e env) :: starEach es env := by
  cases e <;> first | rfl | cases h
theorem nst_all {m : MC} : ∀ {c : Es} {es : List Expr} (env : Env), mtEs m c es = true → (starEach es env).any (·.1) = false
  | .nil, es, env, h => by
    cases es with
    | nil => rfl
    | cons _ _ => simp [mtEs] at h
  | .cons e r, es, env, h => by
    cases es with
    | nil => simp [mtEs] at h
    | cons x xs =>
      simp only [mtEs, Bool.and_eq_true] at h
      rw [nst_each h.1.2, List.any_cons, nst_all env h.2]
      rfl
theorem back_any {pos : Pos} {l : List (Bool × Sem Value)} : (backTo pos l).any (·.1) = l.any (·.1) := by
  unfold backTo
  rw [List.any_map]
  congr 1
theorem nbt_true {e : Expr} (h : nbt e = true) (env : Env) (whole : Sem Value) : isTrue e env whole = (do let v ← whole; standAt e.pos; holding [v] (truthy v)) := by
  cases e <;> first | rfl | skip
  case BoolOp => cases h
  case IfExp => cases h
  case Compare => cases h
  case UnaryOp op a pos => cases op <;> first | rfl | cases h
theorem nsl_ix {e : Expr} (h : nsl e = true) : PlainIx e := by
  intro o i
  cases e <;> first | rfl | cases h
theorem nset_in {op : CmpOp} {e : Expr} (h : nset e = true) : behindInMarks op e = false := by
  cases e <;> first | rfl | cases h
theorem nset_last {op op' : CmpOp} {e e' : Expr} (h : nset e' = true) : lastMarks [op, op'] [e, e'] = false := nset_in h
theorem nset_for {e : Expr} (h : nset e = true) (env : Env) (x : Value) : foldedSetIterable e env x = pure x := by
  cases e <;> first | rfl | cases h
theorem nsup_base {o : Expr} (h : nsup o = true) (f : Str) (env : Env) (whole : Sem Value) : attributeBase o f env whole = whole := by
  cases o <;> first | rfl | skip
  case Call fn args kws pos =>
    cases args with
    | cons _ _ => cases fn <;> rfl
    | nil =>
      cases kws with
      | nil => cases h
      | cons _ _ => cases fn <;> rfl
theorem nlc_swap {e : Expr} (h : nlc e = true) (t : Option Expr) (l : Nat) (env : Env) : swapsWith e t l env = pure false := by
  cases e <;> first | rfl | cases h

/-! ### calls -/
/-- f(e, ..) -/
theorem run_fnG {pins : List (Addr × Obj)} {σ : L2.St} {H : Hp} {s : Shared} {Q : VK} {us : List Value} {vs : List V} {a : Addr} {fn : List D → M D} (c : CtxOk C m X WE k) (F : FnC X.K X.mg X.prog X.w X.base k a fn) (I : Inv X pins σ H s) (r : Vals vs us)
    (h : spG X.K X.mg fn vs H Q (fun cls dd H' => WE cls dd σ H')) : wpAny (model X.prog X.w) X.A (call (.ref a) us) (EP X pins σ Q) X.xe s := by
  refine wpAny_call (codeAny_mono (F X.A X.stack s H us vs Q _ c.room I.env0 r h) fun r s' hq => ?_)
  cases r with
  | error e => exact c.tk e s' (XE.of_call I (fun _ _ _ h => h) hq)
  | ok fl =>
    cases fl with
    | ret u => exact I.after hq
    | next => exact False.elim hq
    | brk => exact False.elim hq
    | cont => exact False.elim hq
def tCallG (K : PySem.W.Frag) (mg : Str → Option Value) (WE : WX) (fn : List D → M D) (t : TA) : TE := fun σ H Q => t σ H fun vs H1 => spG K mg fn vs H1 Q (fun cls dd H' => WE cls dd σ H')
theorem pe_callG {f : Str} {p pos : Pos} {es : List Expr} {t : TA} {ce : Es} (c : CtxOk C m X WE k) (hf : m.fns.contains f = true) (hg : L2.Gl X f) (hd : (f == ("__debug__" : Str)) = false) (ha : PA X es t) (hm : mtEs m ce es = true) (hne : es ≠ []) :
    PE X (.Call (.Name f p) es [] pos) (tCallG X.K X.mg WE (C.orc.fn f) t) := by
  obtain ⟨a, h1, h2⟩ := c.fns f (by simpa using hf)
  have F := c.fnc f a h1
  refine ⟨fun pins s σ H Q I h => ?_⟩
  refine wpAny_Call_Name_kw (ld_glob I hg h1 ?_ hd)
  cases ce with
  | nil =>
    cases es with
    | nil => exact absurd rfl hne
    | cons _ _ => simp [mtEs] at hm
  | cons c1 cr =>
    cases es with
    | nil => exact absurd rfl hne
    | cons e es =>
      simp only [mtEs, Bool.and_eq_true] at hm
      refine PySem.W.callWith_K (h₀ := X.base) I.ok.mod.kin h2 (thn (ha.run pos pins s σ H _ I h) fun us s1 ⟨vs, H1, I1, r, q⟩ => ⟨I1.kIn, ?_⟩) (nst_each hm.1.2 es X.env) (by rw [back_any, nst_all X.env hm.2])
      exact run_fnG c F I1 r q
theorem pe_callG0 {f : Str} {p pos : Pos} (c : CtxOk C m X WE k) (hf : m.fns.contains f = true) (hg : L2.Gl X f) (hd : (f == ("__debug__" : Str)) = false) :
    PE X (.Call (.Name f p) [] [] pos) (tCallG X.K X.mg WE (C.orc.fn f) tNil) := by
  obtain ⟨a, h1, h2⟩ := c.fns f (by simpa using hf)
  have F := c.fnc f a h1
  refine ⟨fun pins s σ H Q I h => ?_⟩
  refine wpAny_Call_Name_kw (ld_glob I hg h1 ?_ hd)
  exact PySem.W.callWith_K0 I.kIn h2 (run_fnG (us := []) c F I .nil h)
/-- f(e, ..), f a name of the frame that holds a def -/
def tCalG (K : PySem.W.Frag) (mg : Str → Option Value) (WE : WX) (C : Cx') (i : Nat) (t : TA) : TE := fun σ H Q => ∃ a f, σ[i]? = some (some (.ref a)) ∧ mg f = some (.ref a) ∧ PySem.W.keepIn K (.ref a) = true ∧ t σ H fun vs H1 => spG K mg (C.orc.fn f) vs H1 Q (fun cls dd H' => WE cls dd σ H')
theorem pe_calG {x : Str} {i : Nat} {p pos : Pos} {es : List Expr} {t : TA} {ce : Es} (c : CtxOk C m X WE k) (hv : varB m i x = true) (ha : PA X es t) (hm : mtEs m ce es = true) (hne : es ≠ []) :
    PE X (.Call (.Name x p) es [] pos) (tCalG X.K X.mg WE C i t) := by
  obtain ⟨v1, v2, v3, v4⟩ := c.var hv
  refine ⟨fun pins s σ H Q I ⟨a, f, hs, h1, h2, h⟩ => ?_⟩
  refine wpAny_Call_Name_kw (thn ((pe_var (pos := p) (i := i) v1 v2 v3 v4).run pins s σ H (fun v H1 => v = .ref a ∧ H1 = H) I ⟨.ref a, hs, rfl, rfl⟩) fun u s1 ⟨v, H1, I1, r1, q1⟩ => ?_)
  obtain ⟨ev, eH⟩ := q1
  subst ev eH
  obtain rfl : u = Value.ref a := r1
  cases ce with
  | nil =>
    cases es with
    | nil => exact absurd rfl hne
    | cons _ _ => simp [mtEs] at hm
  | cons c1 cr =>
    cases es with
    | nil => exact absurd rfl hne
    | cons e es =>
      simp only [mtEs, Bool.and_eq_true] at hm
      refine PySem.W.callWith_K (h₀ := X.base) I1.ok.mod.kin h2 (thn (ha.run pos pins s1 σ H1 _ I1 h) fun us s2 ⟨vs, H2, I2, r, q⟩ => ⟨I2.kIn, ?_⟩) (nst_each hm.1.2 es X.env) (by rw [back_any, nst_all X.env hm.2])
      exact run_fnG c (c.fnc f a h1) I2 r q
/-- f(), f a name of the frame: a def or a closure -/
def tCal0 (K : PySem.W.Frag) (mg : Str → Option Value) (WE : WX) (C : Cx') (i : Nat) : TE := fun σ H Q => ∃ a, σ[i]? = some (some (.ref a)) ∧
  ((∃ f, mg f = some (.ref a) ∧ PySem.W.keepIn K (.ref a) = true ∧ spG K mg (C.orc.fn f) [] H Q (fun cls dd H' => WE cls dd σ H')) ∨ ∃ l, spC K mg l (C.orc.clo l) a H Q (fun cls dd H' => WE cls dd σ H'))
theorem pe_cal0 {x : Str} {i : Nat} {p pos : Pos} (c : CtxOk C m X WE k) (hv : varB m i x = true) : PE X (.Call (.Name x p) [] [] pos) (tCal0 X.K X.mg WE C i) := by
  obtain ⟨v1, v2, v3, v4⟩ := c.var hv
  refine ⟨fun pins s σ H Q I ⟨a, hs, h⟩ => ?_⟩
  refine wpAny_Call_Name_kw (thn ((pe_var (pos := p) (i := i) v1 v2 v3 v4).run pins s σ H (fun v H1 => v = .ref a ∧ H1 = H) I ⟨.ref a, hs, rfl, rfl⟩) fun u s1 ⟨v, H1, I1, r1, q1⟩ => ?_)
  obtain ⟨ev, eH⟩ := q1
  subst ev eH
  obtain rfl : u = Value.ref a := r1
  rcases h with ⟨f, h1, h2, h⟩ | ⟨l, h⟩
  · exact PySem.W.callWith_K0 I1.kIn h2 (run_fnG (us := []) c (c.fnc f a h1) I1 .nil h)
  · obtain ⟨FF, st, W, μ, S, r, p⟩ := id h
    simp only [Rp] at r
    obtain ⟨f', o, c', oc, ef, hp, hg, _⟩ := r
    cases ef
    obtain ⟨c1, od, fd, osl, rfl⟩ := c.clf _ _ _ _ _ hp
    have ho : s1.heap.get? a = some (⟨c1, od, .func fd, osl⟩ : Obj) := (I1.hok a _ (S.sub _ _ hg)).1
    refine PySem.W.callWith_F0 ⟨_, _, _, _, ho⟩ ?_
    refine wpAny_call (codeAny_mono (c.clo l X.A X.stack s1 H1 a Q _ c.room I1.env0 h) fun r s' hq => ?_)
    cases r with
    | error e => exact c.tk e s' (XE.of_call I1 (fun _ _ _ h => h) hq)
    | ok fl =>
      cases fl with
      | ret u => exact I1.after hq
      | next => exact False.elim hq
      | brk => exact False.elim hq
      | cont => exact False.elim hq
end
end Ev
end
section
set_option Elab.async false
set_option linter.all false
set_option maxRecDepth 100000
set_option maxHeartbeats 1000003
namespace Ev
open PySem PySem.Spec PyProof.Rows L2
variable [Gh]
section
variable {C : Cx'} {m : MC} {X : Cx} {WE : WX} {k : Nat}
theorem lookup_relS {sc : Scope} {x : Str} {kd : NameKind} (hk : kd = .local ∨ kd = .cell) : ∀ {names : List (Str × NameKind)}, names.lookup x = some kd →
    (names.map fun (n, k) => if (k == NameKind.free && sc.kind == .function && sc.names.lookup n == some .cell) then (n, NameKind.cell) else (n, k)).lookup x = some kd
  | [], h => by simp at h
  | (n, k) :: r, h => by
    show List.lookup x ((if (k == NameKind.free && sc.kind == .function && sc.names.lookup n == some .cell) = true then (n, NameKind.cell) else (n, k)) :: _) = some kd
    by_cases hx : (x == n) = true
    · rw [List.lookup_cons, hx] at h
      have e : k = kd := Option.some.inj h
      subst e
      have f : (k == NameKind.free) = false := by rcases hk with rfl | rfl <;> rfl
      simp only [f, Bool.false_and, Bool.false_eq_true, if_false]
      rw [List.lookup_cons, hx]
    · have hx : (x == n) = false := by simpa using hx
      rw [List.lookup_cons, hx] at h
      have ih := lookup_relS (sc := sc) hk h
      by_cases hb : (k == NameKind.free && sc.kind == .function && sc.names.lookup n == some .cell) = true
      · rw [if_pos hb, List.lookup_cons]
        simp only [hx]
        exact ih
      · rw [if_neg hb, List.lookup_cons]
        simp only [hx]
        exact ih
/-- the context of a comprehension's block -/
theorem CtxOk.blk (c : CtxOk C m X WE k) (s : Shared) (H : Hp) (scope : Scope) (D : Addr) (cl : List (Str × Addr)) (fp : List Addr) :
    CtxOk C (m.blk scope) (X.blk s H scope (compEnvC scope cl D X.env) fp) (fun _ _ _ _ => False) k := by
  refine ⟨c.hN, c.nd, ?_, c.calm, c.room, ?_, fun x hx => ?_, c.con, c.isa, c.cns, c.bn, c.gcd, c.fns, c.fnc, c.clo, c.clf, fun h => absurd h (by simp [MC.blk]), c.k2, c.exc, c.exm⟩
  · show relabel scope X.env = relS scope m.sc
    rw [← c.hsc]
    rfl
  · rintro u s' ⟨a, B, sI, pins, σ, H, cls, d, e, I, nb, up, sky, na, os, ag, w⟩
    exact w
  · have hx' : locB scope x = true := hx
    unfold locB at hx'
    show L2.Loc (relS scope X.env.scope) x ∧ ((scope.names.lookup x == some .cell) = true ∨ (relS scope X.env.scope).names.lookup x = some .local)
    split at hx'
    · rename_i e
      have := lookup_relS (sc := X.env.scope) (.inl rfl) e
      exact ⟨.inl this, .inr this⟩
    · rename_i e
      have := lookup_relS (sc := X.env.scope) (.inr rfl) e
      exact ⟨.inr this, .inl (by rw [e]; rfl)⟩
    · cases hx'

/-! ### targets -/
def gP (K : PySem.W.Frag) (mg : Str → Option Value) (vs : List Nat) (t : Tg) : TG := fun v σ H Q => ∃ FF env st W μ d e', SA K mg FF H W μ st ∧ RE K mg W μ σ env ∧ Rp K mg W d v ∧ asgP t d env = some e' ∧
  ∀ σ', RE K mg W μ σ' e' → σ'.length = σ.length → (∀ j, j ∉ vs → σ'[j]? = σ[j]?) → Q σ' H
def gPs (K : PySem.W.Frag) (mg : Str → Option Value) (vs : List Nat) (t : Tgs) : TGs := fun us σ H Q => ∃ FF env st W μ ds e', SA K mg FF H W μ st ∧ RE K mg W μ σ env ∧ Rps K mg W ds us ∧ asgPs t ds env = some e' ∧
  ∀ σ', RE K mg W μ σ' e' → σ'.length = σ.length → (∀ j, j ∉ vs → σ'[j]? = σ[j]?) → Q σ' H
theorem _root_.L2.PG.imp {X : Cx} {e : Expr} {t t' : TG} (p : PG X e t) (h : ∀ v σ H Q, t' v σ H Q → t v σ H Q) : PG X e t' := ⟨fun pins s σ H v u Q I r q => p.run pins s σ H v u Q I r (h _ _ _ _ q)⟩
theorem _root_.L2.PGs.imp {X : Cx} {e : List Expr} {t t' : L2.TGs} (p : PGs X e t) (h : ∀ v σ H Q, t' v σ H Q → t v σ H Q) : PGs X e t' := ⟨fun pins s σ H v u Q I r q => p.run pins s σ H v u Q I r (h _ _ _ _ q)⟩
theorem _root_.L2.PG.or {X : Cx} {e : Expr} {t t' : TG} (p : PG X e t) (p' : PG X e t') : PG X e (fun v σ H Q => t v σ H Q ∨ t' v σ H Q) := ⟨fun pins s σ H v u Q I r q => q.elim (p.run pins s σ H v u Q I r) (p'.run pins s σ H v u Q I r)⟩
theorem asg_each {m : MC} {vs : List Nat} : ∀ {c : Tgs} {es : List Expr} (env : Env), mtTgs m vs c es = true → (assignEach es env).length = es.length ∧ (assignEach es env).findIdx? (·.1) = none
  | .nil, es, env, h => by
    cases es with
    | nil => exact ⟨rfl, rfl⟩
    | cons _ _ => simp [mtTgs] at h
  | .cons t r, es, env, h => by
    cases es with
    | nil => simp [mtTgs] at h
    | cons x xs =>
      simp only [mtTgs, Bool.and_eq_true] at h
      obtain ⟨ih1, ih2⟩ := asg_each env h.2
      have e : assignEach (x :: xs) env = (false, assign x env) :: assignEach xs env := by
        have := h.1.2
        cases x <;> first | rfl | cases this
      rw [e]
      refine ⟨by simp [ih1], ?_⟩
      rw [List.findIdx?_cons, ih2]
      rfl
theorem asgPs_len {vs : List Nat} : ∀ {ts : Tgs} {es : List Expr} {xs : List D} {env e' : En}, mtTgs m vs ts es = true → asgPs ts xs env = some e' → xs.length = es.length
  | .nil, es, xs, env, e', h1, h2 => by
    cases es <;> cases xs <;> first | rfl | (simp [mtTgs] at h1; done) | (simp [asgPs] at h2; done)
  | .cons t r, es, xs, env, e', h1, h2 => by
    cases es with
    | nil => simp [mtTgs] at h1
    | cons y ys =>
      cases xs with
      | nil => simp [asgPs] at h2
      | cons x xs =>
        simp only [mtTgs, Bool.and_eq_true] at h1
        simp only [asgPs] at h2
        split at h2
        · rw [List.length_cons, List.length_cons, asgPs_len h1.2 h2]
        · cases h2
mutual
theorem sndTg (c : CtxOk C m X WE k) (vs : List Nat) (t : Tg) (a : Expr) (h : mtTg m vs t a = true) : PG X a (gP X.K X.mg vs t) := by
  match t with
  | .name i =>
    cases a with
    | Name x pos =>
      simp only [mtTg, Bool.and_eq_true] at h
      obtain ⟨h1, h2, h3⟩ := c.tgt h.1
      refine (pg_name (c.hN ▸ c.nd) h1 h2 h3).imp ?_
      rintro v σ H Q ⟨FF, env, st, W, μ, d, e', S, E, r, ea, q⟩
      simp only [asgP, Option.some.injEq] at ea
      subst ea
      refine q _ (E.set r.a) (by rw [List.length_set]) fun j hj => ?_
      rw [List.getElem?_set_ne]
      intro e
      subst e
      exact hj (of_decide_eq_true h.2)
    | _ => simp [mtTg] at h
  | .tup ts =>
    cases a with
    | Tuple es kk pos =>
      simp only [mtTg] at h
      have hs := sndTgs c vs ts es h
      obtain ⟨l1, l2⟩ := asg_each X.env h
      refine ((pg_tup c.calm hs l1 l2).or (pg_lst c.calm hs l1 l2)).imp ?_
      rintro v σ H Q ⟨FF, env, st, W, μ, d, e', S, E, r, ea, q⟩
      cases d with
      | tup xs =>
        simp only [asgP] at ea
        obtain ⟨t, us, rfl, q1, q2⟩ := Rp.sqT r S.sub
        exact .inl ⟨t, us, rfl, q1, by rw [← q2.length, asgPs_len h ea], FF, env, st, W, μ, xs, e', S, E, q2, ea, q⟩
      | lst xs =>
        simp only [asgP] at ea
        obtain ⟨t, us, rfl, q1, q2⟩ := Rp.lstH r S.sub
        exact .inr ⟨t, us, rfl, SqL.of q1, by rw [← q2.length, asgPs_len h ea], FF, env, st, W, μ, xs, e', S, E, q2, ea, q⟩
      | _ => simp [asgP] at ea
    | _ => simp [mtTg] at h
  | .ix _ _ => simp [mtTg] at h
theorem sndTgs (c : CtxOk C m X WE k) (vs : List Nat) (t : Tgs) (a : List Expr) (h : mtTgs m vs t a = true) : PGs X a (gPs X.K X.mg vs t) := by
  match t with
  | .nil =>
    cases a with
    | nil =>
      refine pgs_nil.imp ?_
      rintro v σ H Q ⟨FF, env, st, W, μ, ds, e', S, E, r, ea, q⟩
      cases ds with
      | nil =>
        simp only [Rps] at r
        simp only [asgPs, Option.some.injEq] at ea
        subst ea
        exact ⟨r, q σ E rfl fun _ _ => rfl⟩
      | cons _ _ => simp [asgPs] at ea
    | cons _ _ => simp [mtTgs] at h
  | .cons t r =>
    cases a with
    | nil => simp [mtTgs] at h
    | cons x xs =>
      simp only [mtTgs, Bool.and_eq_true] at h
      have h1 := sndTg c vs t x h.1.1
      have h2 := sndTgs c vs r xs h.2
      refine (pgs_cons h1 h2 (by have := h.1.2; cases x <;> first | rfl | cases this)).imp ?_
      rintro v σ H Q ⟨FF, env, st, W, μ, ds, e', S, E, rr, ea, q⟩
      cases ds with
      | nil => simp [asgPs] at ea
      | cons d ds =>
        simp only [Rps] at rr
        obtain ⟨u, us, rfl, r1, r2⟩ := rr
        simp only [asgPs] at ea
        split at ea
        · rename_i e1 ee
          exact ⟨u, us, rfl, FF, env, st, W, μ, d, e1, S, E, r1, ee, fun σ1 E1 l1 n1 => ⟨FF, e1, st, W, μ, ds, e', S, E1, r2, ea, fun σ2 E2 l2 n2 => q σ2 E2 (l2.trans l1) fun j hj => (n2 j hj).trans (n1 j hj)⟩⟩
        · cases ea
end
end
end Ev
end
section
set_option Elab.async false
set_option linter.all false
set_option maxRecDepth 100000
set_option maxHeartbeats 1000003
namespace Ev
open PySem PySem.Spec PyProof.Rows L2
variable [Gh]
section
variable {K : PySem.W.Frag} {mg : Str → Option Value} {FF : List (Addr × HO)} {H : Hp} {W : Vw} {μ : List Addr} {st : Sto}
/-- an address that none of the rest speaks of -/
structure Free (FF : List (Addr × HO)) (W : Vw) (μ : List Addr) (st : Sto) (p : Addr) : Prop where
  g : W.G p = none
  m : ∀ (k : Nat) (o : MO), st[k]? = some o → o.live = true → μ[k]? ≠ some p
  f : ∀ q ∈ FF, q.1 ≠ p
theorem SA.free {p : Addr} (S : SA K mg FF H W μ st) (hp : H p = none) : Free FF W μ st p :=
  ⟨S.gnone hp, fun k o e l => S.nmu hp e l, fun q hq e => by
    have := (S.ff q hq).1
    rw [e, hp] at this
    cases this⟩
theorem SA.pop {q : Addr × HO} (S : SA K mg (q :: FF) H W μ st) : SA K mg FF H W μ st :=
  ⟨S.sub, S.len, S.sto, S.inj, fun p hp => S.ff p (List.mem_cons_of_mem _ hp)⟩
theorem SA.freeT {p : Addr} {o : HO} (S : SA K mg ((p, o) :: FF) H W μ st) (hf : ∀ q ∈ FF, q.1 ≠ p) : Free FF W μ st p ∧ H p = some o :=
  let h := S.ff (p, o) (List.mem_cons_self ..)
  ⟨⟨h.2.1, h.2.2, hf⟩, h.1⟩
theorem SA.updF {p : Addr} {o : HO} (S : SA K mg FF H W μ st) (f : Free FF W μ st p) : SA K mg FF (upd H p o) W μ st where
  sub := fun a u h => by
    rw [upd_ne (fun z => by rw [z, f.g] at h; cases h)]
    exact S.sub a u h
  len := S.len
  sto := fun k u e => by
    cases hl : u.live with
    | false => exact (S.sto k u e).fz hl (LeW.refl _)
    | true => exact (S.sto k u e).mv (LeW.refl _) fun a v ea h1 h2 => ⟨by rw [upd_ne (fun z => f.m k u e hl (by rw [← z]; exact ea))]; exact h1, h2⟩
  inj := S.inj
  ff := fun q hq => by
    obtain ⟨h1, h2, h3⟩ := S.ff q hq
    exact ⟨by rw [upd_ne (f.f q hq)]; exact h1, h2, h3⟩
theorem SA.push {p : Addr} {o : HO} (S : SA K mg FF H W μ st) (f : Free FF W μ st p) : SA K mg ((p, o) :: FF) (upd H p o) W μ st := by
  have S1 := S.updF (o := o) f
  exact ⟨S1.sub, S1.len, S1.sto, S1.inj, fun q hq => by
    rcases List.mem_cons.mp hq with e | hq
    · subst e
      exact ⟨upd_same, f.g, f.m⟩
    · exact S1.ff q hq⟩
/-- the tracked object is rewritten -/
theorem SA.ffw {p : Addr} {o o' : HO} (S : SA K mg ((p, o) :: FF) H W μ st) (hf : ∀ q ∈ FF, q.1 ≠ p) : SA K mg ((p, o') :: FF) (upd H p o') W μ st := S.pop.push (S.freeT hf).1
theorem SA.putF {p : Addr} {o : HO} (S : SA K mg FF H W μ st) (f : Free FF W μ st p) (hp : H p = some o) : SA K mg FF H (W.put p o) μ st := by
  refine ⟨fun a u h => ?_, S.len, fun k u e => ?_, S.inj, fun q hq => ?_⟩
  · have h' : upd W.G p o a = some u := h
    by_cases z : a = p
    · subst z
      rw [upd_same] at h'
      cases h'
      exact hp
    · rw [upd_ne z] at h'
      exact S.sub a u h'
  · cases hl : u.live with
    | false => exact (S.sto k u e).fz hl (LeW.put f.g)
    | true =>
      refine (S.sto k u e).mv (LeW.put f.g) fun a v ea h1 h2 => ⟨h1, ?_⟩
      show upd W.G p o a = none
      rw [upd_ne (fun z => f.m k u e hl (by rw [← z]; exact ea))]
      exact h2
  · obtain ⟨h1, h2, h3⟩ := S.ff q hq
    refine ⟨h1, ?_, h3⟩
    show upd W.G p o q.1 = none
    rw [upd_ne (f.f q hq)]
    exact h2
theorem SA.newF {p : Addr} {mo : MO} (S : SA K mg FF H W μ st) (f : Free FF W μ st p) (hm : MoR K mg W H (some p) mo) : SA K mg FF H W (μ ++ [p]) (st ++ [mo]) := by
  have hl : ∀ {k : Nat}, k < st.length → (μ ++ [p])[k]? = μ[k]? := fun {k} hk => List.getElem?_append_left (by rw [S.len]; exact hk)
  have he : (μ ++ [p])[st.length]? = some p := by rw [← S.len]; simp
  refine ⟨S.sub, by rw [List.length_append, List.length_append, S.len]; rfl, fun k u e => ?_, fun j k u u' a e1 e2 l1 l2 m1 m2 => ?_, fun q hq => ?_⟩
  · rcases get_snoc e with ⟨hk, e⟩ | ⟨hk, e⟩
    · rw [hl hk]
      exact S.sto k u e
    · rw [hk, he, e]
      exact hm
  · rcases get_snoc e1 with ⟨hj, e1⟩ | ⟨hj, e1⟩ <;> rcases get_snoc e2 with ⟨hk, e2⟩ | ⟨hk, e2⟩
    · rw [hl hj] at m1
      rw [hl hk] at m2
      exact S.inj j k u u' a e1 e2 l1 l2 m1 m2
    · subst hk
      rw [he] at m2
      cases m2
      rw [hl hj] at m1
      exact absurd m1 (f.m _ _ e1 l1)
    · subst hj
      rw [he] at m1
      cases m1
      rw [hl hk] at m2
      exact absurd m2 (f.m _ _ e2 l2)
    · omega
  · obtain ⟨h1, h2, h3⟩ := S.ff q hq
    refine ⟨h1, h2, fun k u e l => ?_⟩
    rcases get_snoc e with ⟨hk, e⟩ | ⟨hk, e⟩
    · rw [hl hk]
      exact h3 k u e l
    · subst hk
      rw [he]
      intro z
      cases z
      exact f.f q hq rfl
/-- the tracked object is given out, plain or changing -/
theorem alloc_lstF {WE : WX} {τ : L2.St} {Q : VK} {m : Bool} {p : Addr} {ds : List D} {vs : List V} (S : SA K mg ((p, .lst vs) :: FF) H W μ st) (hf : ∀ q ∈ FF, q.1 ≠ p) (r : Rps K mg W ds vs)
    (h : Pt K mg WE (relA K mg) FF τ W μ (alloc m (.lst ds) st) Q) : Q (.ref p) H := by
  obtain ⟨f, hp⟩ := S.freeT hf
  cases m with
  | true => exact h _ _ W (μ ++ [p]) (S.pop.newF f ⟨p, vs, rfl, hp, f.g, r⟩) ⟨LeW.refl _, [p], rfl⟩ ⟨p, (by rw [← S.len]; simp), rfl⟩
  | false =>
    have le := LeW.put (o := .lst vs) f.g
    refine h _ _ _ _ (S.pop.putF f hp) ⟨le, [], by simp⟩ (Rp.a ?_)
    simp only [Rp]
    exact ⟨_, vs, rfl, upd_same, r.mono le⟩
theorem alloc_dctF {WE : WX} {τ : L2.St} {Q : VK} {m : Bool} {p : Addr} {ks : List Ky} {ds : List D} {vs : List V} (S : SA K mg ((p, .dK (ks.zip vs)) :: FF) H W μ st) (hf : ∀ q ∈ FF, q.1 ≠ p) (l : ks.length = ds.length) (n : ks.Nodup) (r : Rps K mg W ds vs)
    (h : Pt K mg WE (relA K mg) FF τ W μ (alloc m (.dct ks ds) st) Q) : Q (.ref p) H := by
  obtain ⟨f, hp⟩ := S.freeT hf
  cases m with
  | true => exact h _ _ W (μ ++ [p]) (S.pop.newF f ⟨p, vs, rfl, hp, f.g, l, n, r⟩) ⟨LeW.refl _, [p], rfl⟩ ⟨p, (by rw [← S.len]; simp), rfl⟩
  | false =>
    have le := LeW.put (o := .dK (ks.zip vs)) f.g
    refine h _ _ _ _ (S.pop.putF f hp) ⟨le, [], by simp⟩ (Rp.a ?_)
    simp only [Rp]
    exact ⟨_, vs, rfl, upd_same, l, n, r.mono le⟩
end

/-! ### what is walked -/
/-- the iterator J hands out the data ds -/
def ItR (K : PySem.W.Frag) (mg : Str → Option Value) (W0 : Vw) (ds : List D) (J : L2.It) : Prop := ∀ (i : Nat) (FF : List (Addr × HO)) (H : Hp) (W : Vw) (μ : List Addr) (st : Sto), LeW W0 W → SA K mg FF H W μ st →
  (i = ds.length → J.stop i H) ∧ ∀ d, ds[i]? = some d → J.go i H ∧ ∀ x H', J.yld i H x H' → ∃ W', SA K mg FF H' W' μ st ∧ Ex2 W μ W' μ ∧ Rp K mg W' d x
def relI (K : PySem.W.Frag) (mg : Str → Option Value) : Rl (List D) L2.It := fun W _ ds J => ItR K mg W ds J
section
variable {K : PySem.W.Frag} {mg : Str → Option Value} {WE : WX} {W : Vw}
theorem ItR.mono {W' : Vw} {ds : List D} {J : L2.It} (l : LeW W W') (h : ItR K mg W ds J) : ItR K mg W' ds J := fun i FF H W2 μ st le S => h i FF H W2 μ st (l.trans le) S
theorem ItR.list {a : Addr} {vs : List V} {ds : List D} (h : SqL K W.G a vs) (r : Rps K mg W ds vs) : ItR K mg W ds (Itl K a) := by
  intro i FF H W' μ st le S
  have hs := sqL_sub (le.g.trans S.sub) h
  refine ⟨fun hl => ⟨vs, hs, by rw [← r.length, hl]; exact Nat.le_refl _⟩, fun d hd => ?_⟩
  obtain ⟨v, hv, rv⟩ := r.get hd
  refine ⟨⟨vs, v, hs, hv⟩, fun x H' ⟨e, y⟩ => ?_⟩
  subst e
  have := y vs hs
  rw [hv] at this
  cases this
  exact ⟨W', S, Ex2.refl _ _, rv.mono le⟩
theorem ItR.tup {a : Addr} {vs : List V} {ds : List D} (h : SqT K W.G a vs) (r : Rps K mg W ds vs) : ItR K mg W ds (Itt K a) := by
  intro i FF H W' μ st le S
  have hs := sqT_sub (le.g.trans S.sub) h
  refine ⟨fun hl => ⟨vs, hs, by rw [← r.length, hl]; exact Nat.le_refl _⟩, fun d hd => ?_⟩
  obtain ⟨v, hv, rv⟩ := r.get hd
  refine ⟨⟨vs, v, hs, hv⟩, fun x H' ⟨e, y⟩ => ?_⟩
  subst e
  have := y vs hs
  rw [hv] at this
  cases this
  exact ⟨W', S, Ex2.refl _ _, rv.mono le⟩
theorem ItR.range {lo : Int} {n : Nat} : ItR K mg W ((List.range n).map fun (i : Nat) => D.int (lo + i)) (Itr lo n) := by
  intro i FF H W' μ st le S
  refine ⟨fun hl => (show n ≤ i by simp at hl; omega), fun d hd => ?_⟩
  rw [List.getElem?_map] at hd
  obtain ⟨j, hj, rfl⟩ := Option.map_eq_some_iff.mp hd
  have hi : i < n := by
    have := (List.getElem?_eq_some_iff.mp hj).1
    simpa using this
  rw [List.getElem?_range hi] at hj
  cases hj
  refine ⟨hi, fun x H' ⟨e, y⟩ => ?_⟩
  subst e y
  exact ⟨W', S, Ex2.refl _ _, by simp only [Rp]⟩
end
end Ev
end
section
set_option Elab.async false
set_option linter.all false
set_option maxRecDepth 100000
set_option maxHeartbeats 1000003
namespace Ev
open PySem PySem.Spec PyProof.Rows L2
variable [Gh]
def wipeE (own : List (Str × Nat)) (e : En) : En := own.foldl (fun e p => e.set p.2 none) e
theorem wipeE_some : ∀ {own : List (Str × Nat)} {e : En} {i : Nat} {d : D}, (wipeE own e)[i]? = some (some d) → e[i]? = some (some d) ∧ i ∉ own.map (·.2)
  | [], e, i, d, h => ⟨h, by simp⟩
  | p :: own, e, i, d, h => by
    have h' : (wipeE own (e.set p.2 none))[i]? = some (some d) := h
    obtain ⟨h1, h2⟩ := wipeE_some h'
    by_cases hi : p.2 = i
    · rw [hi] at h1
      by_cases hl : i < e.length
      · rw [List.getElem?_set_self hl] at h1
        cases h1
      · rw [List.getElem?_eq_none (by simpa using hl)] at h1
        cases h1
    · rw [List.getElem?_set_ne hi] at h1
      exact ⟨h1, by simp only [List.map_cons, List.mem_cons, not_or]; exact ⟨fun e => hi e.symm, h2⟩⟩
theorem wipeE_length : ∀ (own : List (Str × Nat)) (e : En), (wipeE own e).length = e.length
  | [], e => rfl
  | p :: own, e => by
    show (wipeE own (e.set p.2 none)).length = _
    rw [wipeE_length, List.length_set]
theorem wipe_get {σ : L2.St} {i : Nat} : ∀ {vs : List Nat}, i ∉ vs → (wipe σ vs)[i]? = σ[i]?
  | [], _ => rfl
  | v :: vs, h => by
    simp only [List.mem_cons, not_or] at h
    unfold wipe
    rw [List.getElem?_set_ne (fun e => h.1 e.symm), wipe_get h.2]
theorem wipe_in {σ : L2.St} {i : Nat} : ∀ {vs : List Nat}, i ∈ vs → i < σ.length → (wipe σ vs)[i]? = some none
  | [], h, _ => nomatch h
  | v :: vs, h, hl => by
    unfold wipe
    by_cases e : v = i
    · subst e
      rw [List.getElem?_set_self (by rw [wipe_length]; exact hl)]
    · rw [List.getElem?_set_ne e]
      rcases List.mem_cons.mp h with h | h
      · exact absurd h.symm e
      · exact wipe_in h hl
theorem wipe_eq {σ τ : L2.St} {vs : List Nat} (hl : τ.length = σ.length) (h : ∀ j, j ∉ vs → τ[j]? = σ[j]?) : wipe τ vs = wipe σ vs := by
  apply List.ext_getElem?
  intro i
  by_cases hi : i ∈ vs
  · by_cases hs : i < σ.length
    · rw [wipe_in hi hs, wipe_in hi (by omega)]
    · rw [List.getElem?_eq_none (by rw [wipe_length]; omega), List.getElem?_eq_none (by rw [wipe_length]; omega)]
  · rw [wipe_get hi, wipe_get hi, h i hi]
theorem wipe_wipe {σ : L2.St} {vs : List Nat} : wipe (wipe σ vs) vs = wipe σ vs := wipe_eq (wipe_length _ _) fun j hj => wipe_get hj
section
variable {K : PySem.W.Frag} {mg : Str → Option Value} {WE : WX} {FF : List (Addr × HO)} {W : Vw} {μ : List Addr} {σ : L2.St} {env : En}
theorem RE.wipe {own : List (Str × Nat)} (E : RE K mg W μ σ env) : RE K mg W μ (wipe σ (own.map (·.2))) (wipeE own env) := by
  refine ⟨by rw [wipe_length, wipeE_length]; exact E.len, fun i d h => ?_⟩
  obtain ⟨h1, h2⟩ := wipeE_some h
  obtain ⟨v, e, r⟩ := E.at_ i d h1
  exact ⟨v, by rw [wipe_get h2]; exact e, r⟩
variable (C : Cx')
/-- one turn of a comprehension -/
def turnD (own : List (Str × Nat)) (tg : Tg) (cs : Ts) (elt : E) (e : En) (x : D) : M (Option D) := match asgP tg x (wipeE own e) with
  | some e' => bnd (evTs C cs e') fun r => (match r with
    | true => bnd (evE C elt e') fun d => bnd (frzD d) fun d => ret (some d)
    | false => ret none)
  | none => no
theorem evE_comp (m : Bool) (own : List (Str × Nat)) (tg : Tg) (it : Ev.It) (cs : Ts) (elt : E) (e : En) :
    evE C (.comp m own tg it cs elt) e = bnd (evIt C it e) fun xs => bnd (nox (loopC (turnD C own tg cs elt e) xs)) fun ys => if decide (ys.length ≤ 1000000) then alloc m (.lst ys) else no := rfl
theorem nox_pt {α γ δ : Type} {rel : Rl γ δ} {τ : L2.St} {mm : M α} {f : α → M γ} {Q : δ → Hp → Prop} {st : Sto} (h : Pt K mg WE rel FF τ W μ (bnd (nox mm) f st) Q) : ∃ a st', mm st = .ok a st' ∧ Pt K mg WE rel FF τ W μ (f a st') Q := by
  unfold bnd nox at h
  cases e : mm st with
  | ok a st' =>
    rw [e] at h
    exact ⟨a, st', rfl, h⟩
  | exc x st' =>
    rw [e] at h
    exact False.elim h
  | no =>
    rw [e] at h
    exact False.elim h
theorem bnd_inv {α β : Type} {mm : M α} {f : α → M β} {st st' : Sto} {b : β} (h : bnd mm f st = .ok b st') : ∃ a st1, mm st = .ok a st1 ∧ f a st1 = .ok b st' := by
  unfold bnd at h
  cases e : mm st with
  | ok a st1 =>
    rw [e] at h
    exact ⟨a, st1, rfl, h⟩
  | exc x st1 => rw [e] at h; cases h
  | no => rw [e] at h; cases h
/-- the comprehension's reading -/
theorem rd_comp {m : Bool} {own : List (Str × Nat)} {tg : Tg} {it : Ev.It} {cs : Ts} {elt : E} {H : Hp} {Q : VK} (h : rd K mg WE (relA K mg) (evE C (.comp m own tg it cs elt)) σ H Q) :
    tLc (rd K mg WE (relI K mg) (evIt C it)) (gP K mg (own.map (·.2)) tg) (rd K mg (fun _ _ _ _ => False) relB (evTs C cs)) (rd K mg (fun _ _ _ _ => False) (relA K mg) (evE C elt)) (own.map (·.2)) σ H Q := by
  refine (rd_bnd (m := evIt C it) (f := fun e xs => bnd (nox (loopC (turnD C own tg cs elt e) xs)) fun ys => if decide (ys.length ≤ 1000000) then alloc m (.lst ys) else no) h).imp ?_
  rintro J H1 ⟨FF, env, st, xs, W, μ, S, E, rj, p⟩ D hD
  obtain ⟨ys, st', hlp, p⟩ := nox_pt p
  split at p
  · rename_i hlen
    have hlen := of_decide_eq_true hlen
    have fD := S.free hD
    have hf : ∀ q ∈ FF, q.1 ≠ D := fD.f
    let Pv : Nat → Hp → Prop := fun i H => ∃ W' μ' st_i acc accV rest, SA K mg ((D, .lst accV) :: FF) H W' μ' st_i ∧ Ex2 W μ W' μ' ∧ Rps K mg W' acc accV ∧ loopC (turnD C own tg cs elt env) (xs.drop i) st_i = .ok rest st' ∧ acc ++ rest = ys
    refine ⟨fun i n H => n = xs.length - i ∧ i ≤ xs.length ∧ Pv i H, ⟨xs.length, by simp, Nat.zero_le _, W, μ, st, [], [], ys, S.push fD, Ex2.refl _ _, Rps.nil, by simpa using hlp, rfl⟩, ?_⟩
    rintro i n H ⟨rfl, hi, W', μ', sti, acc, accV, rest, S', x', ra, hl, hy⟩
    obtain ⟨j1, j2⟩ := rj i _ H W' μ' sti x'.w S'
    by_cases hlt : i < xs.length
    · refine .inr ?_
      obtain ⟨d, hd⟩ : ∃ d, xs[i]? = some d := ⟨xs[i], by simp [hlt]⟩
      obtain ⟨j3, j4⟩ := j2 d hd
      refine ⟨j3, Pv (i + 1), fun H' p' => ⟨xs.length - (i + 1), by omega, rfl, hlt, p'⟩, fun x H' y => ?_⟩
      obtain ⟨W2, S2, x2, rx⟩ := j4 x H' y
      have hdrop : xs.drop i = d :: xs.drop (i + 1) := by
        rw [List.drop_eq_getElem_cons hlt]
        congr 1
        have := List.getElem?_eq_getElem hlt
        rw [hd] at this
        exact (Option.some.inj this).symm
      rw [hdrop] at hl
      obtain ⟨o, st1, ho, hr⟩ := bnd_inv (f := fun o => bnd (loopC (turnD C own tg cs elt env) (xs.drop (i + 1))) fun r => ret (consO o r)) hl
      obtain ⟨r, st2, hr1, hr2⟩ := bnd_inv hr
      cases hr2
      cases ea : asgP tg d (wipeE own env) with
      | none =>
        simp only [turnD, ea] at ho
        cases ho
      | some e' =>
        simp only [turnD, ea] at ho
        have E2 : RE K mg W2 μ' (wipe σ (own.map (·.2))) (wipeE own env) := (E.mono (x'.trans x2)).wipe
        refine ⟨_, _, sti, W2, μ', d, e', S2, E2, rx, ea, fun σ' E' l' n' => ⟨(wipe_eq l' n').trans wipe_wipe, ?_⟩⟩
        refine ⟨_, e', sti, W2, μ', S2, E', ?_⟩
        obtain ⟨b, st3, hb, hk⟩ := bnd_inv ho
        rw [hb]
        rintro b' H3 W3 μ3 S3 x3 rfl
        cases b with
        | false =>
          cases hk
          simp only [Bool.false_eq_true, if_false]
          exact ⟨W3, μ3, _, acc, accV, r, S3, (x'.trans x2).trans x3, ra.mono (x2.w.trans x3.w), hr1, hy⟩
        | true =>
          simp only [if_true]
          obtain ⟨dd, st4, hd1, hd2⟩ := bnd_inv hk
          refine ⟨_, e', _, W3, μ3, S3, E'.mono x3, ?_⟩
          rw [hd1]
          rintro v H4 W4 μ4 S4 x4 rv
          obtain ⟨dz, st5, hz1, hz2⟩ := bnd_inv hd2
          cases hz2
          obtain ⟨W5, S5, x5, rz⟩ := frz_ok S4 rv hz1
          have hacc : acc.length < sizeLine := by
            have := congrArg List.length hy
            simp only [List.length_append, consO, List.length_cons] at this
            have := line1m
            omega
          have ra5 := ra.mono ((x2.w.trans x3.w).trans (x4.w.trans x5.w))
          refine ⟨accV, (S5.freeT hf).2, by rw [← ra5.length]; exact hacc, W5, μ4, _, acc ++ [dz], accV ++ [v], r, S5.ffw hf, ((x'.trans x2).trans x3).trans (x4.trans x5), ra5.app (Rps.cons rz Rps.nil), hr1, ?_⟩
          rw [← hy]
          simp [consO]
    · have e : i = xs.length := by omega
      subst e
      refine .inl ⟨j1 rfl, ?_⟩
      rw [List.drop_length] at hl
      cases hl
      rw [List.append_nil] at hy
      subst hy
      exact alloc_lstF S' hf ra (Pt.mono x' p)
  · exact False.elim p
end
end Ev
end
section
set_option Elab.async false
set_option linter.all false
set_option maxRecDepth 100000
set_option maxHeartbeats 1000003
namespace Ev
open PySem PySem.Spec PyProof.Rows L2
variable [Gh]
section
variable {K : PySem.W.Frag} {mg : Str → Option Value} {WE : WX} {α β γ δ : Type} {rel : Rl α β} {rel2 : Rl γ δ} {FF : List (Addr × HO)} {σ : L2.St} {W : Vw} {μ : List Addr} {H : Hp} {st : Sto} {env : En}
/-- one step at a point, then the rest -/
theorem pt_bnd {mm : M α} {f : α → M γ} {Q : δ → Hp → Prop} (h : Pt K mg WE rel2 FF σ W μ (bnd mm f st) Q) :
    Pt K mg WE rel FF σ W μ (mm st) (fun b H1 => ∃ a st' W' μ', SA K mg FF H1 W' μ' st' ∧ Ex2 W μ W' μ' ∧ rel W' μ' a b ∧ Pt K mg WE rel2 FF σ W' μ' (f a st') Q) := by
  unfold bnd at h
  cases e : mm st with
  | ok a st1 =>
    rw [e] at h
    exact fun b H1 W1 μ1 S1 x r => ⟨a, st1, W1, μ1, S1, x, r, Pt.mono x h⟩
  | exc y st1 =>
    rw [e] at h
    exact h
  | no =>
    rw [e] at h
    exact h
theorem rd_ret {g : En → α} {Q : β → Hp → Prop} (h : rd K mg WE rel (fun e => ret (g e)) σ H Q) : ∃ FF env st W μ, SA K mg FF H W μ st ∧ RE K mg W μ σ env ∧ ∀ v, rel W μ (g env) v → Q v H := by
  obtain ⟨FF, env, st, W, μ, S, E, p⟩ := h
  exact ⟨FF, env, st, W, μ, S, E, fun v r => p v H W μ S (Ex2.refl _ _) r⟩
theorem rd_at {ev : En → M α} {Q : β → Hp → Prop} (S : SA K mg FF H W μ st) (E : RE K mg W μ σ env) (p : Pt K mg WE rel FF σ W μ (ev env st) Q) : rd K mg WE rel ev σ H Q := ⟨FF, env, st, W, μ, S, E, p⟩
theorem pt_ret {a : α} {Q : β → Hp → Prop} (S : SA K mg FF H W μ st) (p : Pt K mg WE rel FF σ W μ (ret a st) Q) {b : β} (r : rel W μ a b) : Q b H := p b H W μ S (Ex2.refl _ _) r
/-- a bool's answer as a value -/
theorem pt_bl {mm : M Bool} {Q : VK} (h : Pt K mg WE (relA K mg) FF σ W μ (bnd mm (fun r => ret (.bl r)) st) Q) : Pt K mg WE relB FF σ W μ (mm st) (fun b => Q (.bl b)) := by
  refine (pt_bnd (rel := relB) h).imp ?_
  rintro b H1 ⟨a, st', W', μ', S, x, rfl, p⟩
  exact pt_ret S p rfl
/-- a bool that is looked at as a bool -/
theorem rd_blM {ev : En → M D} {f : En → Bool → M γ} {Q : δ → Hp → Prop} (h : rd K mg WE rel2 (fun e => bnd (blM (ev e)) (f e)) σ H Q) :
    rd K mg WE (relA K mg) ev σ H (fun x H1 => ∃ c, x = .bl c ∧ ∃ FF env st W μ, SA K mg FF H1 W μ st ∧ RE K mg W μ σ env ∧ Pt K mg WE rel2 FF σ W μ (f env c st) Q) := by
  have h' : rd K mg WE rel2 (fun e => bnd (ev e) fun d => bnd (match d with
    | .bl b => ret b
    | _ => no) (f e)) σ H Q := by
    obtain ⟨FF, env, st, W, μ, S, E, p⟩ := h
    refine ⟨FF, env, st, W, μ, S, E, ?_⟩
    dsimp only at p ⊢
    unfold blM at p
    rw [bnd_bnd] at p
    exact p
  refine (rd_bnd (m := ev) (f := fun e d => bnd (match d with
    | .bl b => ret b
    | _ => no) (f e)) h').imp ?_
  rintro x H1 ⟨FF, env, st, d, W, μ, S, E, r, p⟩
  cases d <;> first | exact False.elim p | skip
  obtain rfl : x = .bl _ := r
  exact ⟨_, rfl, FF, env, st, W, μ, S, E, p⟩
theorem rpas_nil {vs : List V} (h : Rpas K mg W μ [] vs) : vs = [] := h
/-- argument lists -/
theorem rd_cons {C : Cx'} {e : Ev.E} {r : Es} {Q : List V → Hp → Prop} (h : rd K mg WE (relL K mg) (evEs C (.cons e r)) σ H Q) : tCons (rd K mg WE (relA K mg) (evE C e)) (rd K mg WE (relL K mg) (evEs C r)) σ H Q := by
  have h' : rd K mg WE (relL K mg) (fun en => bnd (evE C e en) fun x => bnd (evEs C r en) fun xs => ret (x :: xs)) σ H Q := h
  refine (rd_bnd2 (rel := relA K mg) (relX := relL K mg) relA_mono h').imp fun x H1 q => q.imp ?_
  rintro xs H2 ⟨FF, env, st, a, as, W, μ, S, E, r1, r2, p⟩
  exact pt_ret S p ⟨x, xs, rfl, r1, r2⟩
theorem rd_nil {C : Cx'} {Q : List V → Hp → Prop} (h : rd K mg WE (relL K mg) (evEs C .nil) σ H Q) : tNil σ H Q := by
  obtain ⟨FF, env, st, W, μ, S, E, p⟩ := h
  exact pt_ret S p rfl
theorem optB_pt {α' : Type} {o : Option α'} {f : α' → M γ} {Q : δ → Hp → Prop} (h : Pt K mg WE rel2 FF σ W μ (optB o f st) Q) : ∃ a, o = some a ∧ Pt K mg WE rel2 FF σ W μ (f a st) Q := by
  cases o with
  | none => exact False.elim h
  | some a => exact ⟨a, rfl, h⟩
/-- a slice's part by its values -/
def PV (vs : List V) (i : Option Int) : Prop := (vs = [] ∧ i = none) ∨ ∃ j, vs = [.int j] ∧ i = some j
theorem optI_pv {ds : List D} {vs : List V} {o : Option Int} (h : optI ds = some o) (r : Rpas K mg W μ ds vs) : PV vs o := by
  unfold optI at h
  split at h
  · cases h
    exact .inl ⟨r, rfl⟩
  · cases h
    obtain ⟨x, q, rfl, r1, r2⟩ := r
    obtain rfl : q = [] := r2
    obtain rfl : x = .int _ := r1
    exact .inr ⟨_, rfl, rfl⟩
  · cases h
end
section
variable {X : Cx} {te : TE} {a e : Expr} {pos : Pos}
theorem pe_notT (ha : PE X a te) : PE X (.UnaryOp .Not a pos) (fun σ H Q => te σ H fun x H1 => ∃ k, TruV X.K x H1 k ∧ Q (.bl (!k)) H1) := by
  refine ⟨fun pins s σ H Q I h => ?_⟩
  refine UnaryOp_ (thn (ha.run pins s σ H _ I h) fun v s1 ⟨x, H1, I1, r1, k, hk, q1⟩ => ?_)
  refine PyProof.Rows.not_of (thn (L2.tru_ok pins s1 σ H1 x v (fun b H => Q (.bl (!b)) H) I1 r1 ⟨k, hk, q1⟩) fun c s2 ⟨H2, I2, q2⟩ => ⟨.bl (!c), H2, I2, rfl, q2⟩)
/-- what is walked: a list or a tuple -/
def iSeq (K : PySem.W.Frag) (tl : TE) : TI := fun σ H R => tl σ H fun x H1 => ∃ a xs, x = .ref a ∧ ((SqL K H1 a xs ∧ R (Itl K a) H1) ∨ (SqT K H1 a xs ∧ R (Itt K a) H1))
theorem pi_seq {tg l : Expr} {tl : TE} (hl : PE X l tl) : PI X tg l (iSeq X.K tl) := by
  refine ⟨fun pins s σ H R I h => ?_⟩
  refine thn (hl.run pins s σ H _ I h) fun v s1 ⟨x, H1, I1, r1, q1⟩ => ?_
  obtain ⟨a, xs, rfl, q1⟩ := q1
  cases r1
  have fin : ∀ b ∈ [s1.heap.objs.size], FpOk X pins H1 b := fun b hb => by
    have e : b = s1.heap.objs.size := by simpa using hb
    rw [e]
    exact I1.fpOk (Nat.le_refl _) (I1.hok.fresh (Nat.le_refl _))
  rcases q1 with ⟨hq, q⟩ | ⟨hq, q⟩
  · obtain ⟨its, rv, p, hz⟩ := I1.list hq
    refine wpAny_pyIter_list p.isList ?_
    exact ⟨s1.heap.objs.size, [s1.heap.objs.size], _, _, H1, rfl, I1.kept (t' := s1.toks) fun b o e => Heap.get?_push_of_some _ e, turn_list a _, ⟨_, Heap.get?_push_size _ rfl, rfl, rfl⟩, fin, q⟩
  · obtain ⟨its, rv, p, hz⟩ := I1.tuple hq
    refine wpAny_pyIter_tuple (show s1.heap.IsTuple a its.toArray from p) ?_
    exact ⟨s1.heap.objs.size, [s1.heap.objs.size], _, _, H1, rfl, I1.kept (t' := s1.toks) fun b o e => Heap.get?_push_of_some _ e, turn_tuple a _, ⟨_, Heap.get?_push_size _ rfl, rfl, rfl⟩, fin, q⟩
theorem _root_.L2.PI.imp {X : Cx} {tg e : Expr} {t t' : TI} (p : PI X tg e t) (h : ∀ σ H Q, t' σ H Q → t σ H Q) : PI X tg e t' := ⟨fun pins s σ H Q I q => p.run pins s σ H Q I (h _ _ _ q)⟩
theorem _root_.L2.PTs.imp {X : Cx} {e : List Expr} {t t' : TT} (p : PTs X e t) (h : ∀ σ H Q, t' σ H Q → t σ H Q) : PTs X e t' := ⟨fun pins s σ H Q I q => p.run pins s σ H Q I (h _ _ _ q)⟩
theorem _root_.L2.PS.imp {X : Cx} {e : Stmt} {t t' : TS} (p : PS X e t) (h : ∀ D σ H, t' D σ H → t D σ H) : PS X e t' := ⟨fun pins s σ H D I q => p.run pins s σ H D I (h _ _ _ q)⟩
theorem _root_.L2.PSs.imp {X : Cx} {e : List Stmt} {t t' : TS} (p : PSs X e t) (h : ∀ D σ H, t' D σ H → t D σ H) : PSs X e t' := ⟨fun pins s σ H D I q => p.run pins s σ H D I (h _ _ _ q)⟩
/-- a reading that is never reached -/
theorem pe_void {t : TE} (h : ∀ σ H Q, ¬ t σ H Q) : PE X e t := ⟨fun _ _ σ H Q _ q => (h σ H Q q).elim⟩
end
/-! ### dict displays -/
section
variable (K : PySem.W.Frag) (mg : Str → Option Value) (WE : WX) (C : Cx')
def trsOf : List Ky → Es → List (TE × TE)
  | k :: ks, .cons e r => (tC (kV k), rd K mg WE (relA K mg) (evE C e)) :: trsOf ks r
  | _, _ => []
def lenEs : Es → Nat
  | .nil => 0
  | .cons _ r => lenEs r + 1
end
section
variable {K : PySem.W.Frag} {mg : Str → Option Value} {WE : WX} {C : Cx'}
theorem tPairs_of {σ : L2.St} : ∀ {ks : List Ky} {es : Es} {H : Hp} {Q : List (V × V) → Hp → Prop}, ks.length = lenEs es → rd K mg WE (relL K mg) (evEs C es) σ H (fun xs H2 => Q ((ks.zip xs).map fun kv => (kV kv.1, kv.2)) H2) →
    tPairs (trsOf K mg WE C ks es) σ H Q
  | [], .nil, H, Q, l, h => rd_nil h
  | [], .cons _ _, _, _, l, _ => by simp [lenEs] at l
  | _ :: _, .nil, _, _, l, _ => by simp [lenEs] at l
  | k :: ks, .cons e r, H, Q, l, h => rd.imp (rd_cons h) fun x H1 q => tPairs_of (ks := ks) (Q := fun ps H3 => Q ((kV k, x) :: ps) H3) (by simpa [lenEs] using l) q
theorem mergeK_nodup : ∀ {more acc : List (Key × V)}, (acc.map (·.1) ++ more.map (·.1)).Nodup → mergeK acc more = acc ++ more
  | [], acc, _ => by simp [mergeK]
  | p :: r, acc, n => by
    have hp : (acc.any fun kv => decide (kv.1 = p.1)) = false := by
      rw [List.any_eq_false]
      intro q hq
      simp only [decide_eq_true_eq]
      intro e
      have := List.nodup_append.mp n
      exact this.2.2 q.1 (List.mem_map_of_mem hq) p.1 (by simp) e
    have e : L2.putK acc p.1 p.2 = acc ++ [p] := by
      unfold L2.putK
      rw [hp]
      rfl
    show mergeK (L2.putK acc p.1 p.2) r = _
    rw [e, mergeK_nodup (by simpa using n)]
    simp
end
end Ev
end
section
set_option Elab.async false
set_option linter.all false
set_option maxRecDepth 100000
set_option maxHeartbeats 1000003
namespace Ev
open PySem PySem.Spec PyProof.Rows L2
variable [Gh]
section
variable {C : Cx'} {m : MC} {X : Cx} {WE : WX} {k : Nat}
abbrev RdE (C : Cx') (X : Cx) (WE : WX) (c : Ev.E) : TE := rd X.K X.mg WE (relA X.K X.mg) (evE C c)
abbrev RdA (C : Cx') (X : Cx) (WE : WX) (c : Es) : TA := rd X.K X.mg WE (relL X.K X.mg) (evEs C c)
abbrev RdT (C : Cx') (X : Cx) (WE : WX) (c : T) : TT := rd X.K X.mg WE relB (evT C c)
theorem bfN_boot {b : Bf} (h : b ≠ .gcd) : bootBuiltins (bfN b) = some (bfV b) := by
  cases b <;> first | exact absurd rfl h | (simp only [bfN, bfV]; decide +kernel)
theorem bmN_boot {b : Bm} : bootBuiltins (bmN b) = some (bmV b) := by
  cases b <;> (simp only [bmN, bmV]; decide +kernel)
theorem bfN_in {b : Bf} (h : b ≠ .gcd) : bfN b ∈ bNs := by
  cases b <;> first | exact absurd rfl h | (simp only [bfN]; decide)
theorem bmN_in {b : Bm} : bmN b ∈ bNs := by
  cases b <;> (simp only [bmN]; decide)
theorem kd_ok (c : CtxOk C m X WE k) {kd : Kd} {a : Expr} (h : kdB m kd a = true) : ∃ v u, KdV X.mg kd v u ∧ PE X a (tC v) ∧ RelV v u := by
  cases a with
  | Name x pos =>
    cases kd with
    | ty n =>
      simp only [kdB, Bool.and_eq_true] at h
      have hn := of_decide_eq_true h.1
      obtain ⟨e, hg, hd, hnn⟩ := c.gl h.2
      subst e
      have hb : bootBuiltins (Str.ofString n) = some (.type n) := by
        simp only [tyNs, List.mem_cons, List.not_mem_nil, or_false] at hn
        rcases hn with rfl | rfl | rfl | rfl | rfl | rfl <;> decide +kernel
      have hi : Str.ofString n ∈ bNs := by
        simp only [tyNs, List.mem_cons, List.not_mem_nil, or_false] at hn
        rcases hn with rfl | rfl | rfl | rfl | rfl | rfl <;> decide
      exact ⟨.ty n, .type n, ⟨hn, rfl, rfl⟩, pe_bltn hg (c.bn _ hi) hb rfl hnn hd, rfl⟩
    | own t =>
      simp only [kdB, Bool.and_eq_true] at h
      obtain ⟨e, hg, hd, hnn⟩ := c.gl h.1
      subst e
      obtain ⟨T, hT⟩ := c.cns t (by simpa using h.2)
      exact ⟨.ref T, .ref T, ⟨T, hT, rfl, rfl⟩, pe_glob hg hT rfl hd, rfl⟩
  | _ => cases kd <;> simp [kdB] at h
/-- the classes of a tuple, from the left -/
def tCs : List V → TA
  | [] => tNil
  | v :: vs => tCons (tC v) (tCs vs)
theorem kds_ok (c : CtxOk C m X WE k) : ∀ {ks : List Kd} {as : List Expr}, kdsB m ks as = true → ∃ vs us, KdVs X.mg ks vs us ∧ PA X as (tCs vs) ∧ Vals vs us
  | [], [], _ => ⟨[], [], .nil, pa_nil, .nil⟩
  | [], _ :: _, h => by simp [kdsB] at h
  | _ :: _, [], h => by simp [kdsB] at h
  | kd :: ks, a :: as, h => by
    simp only [kdsB, Bool.and_eq_true] at h
    obtain ⟨v, u, h1, h2, h3⟩ := kd_ok c h.1
    obtain ⟨vs, us, g1, g2, g3⟩ := kds_ok c h.2
    refine ⟨v :: vs, u :: us, .cons h1 g1, pa_cons h2 g2 (nst_each ?_ _ _), .cons h3 g3⟩
    have := h.1
    cases a <;> first | rfl | (cases kd <;> simp [kdB] at this)
theorem tCs_run {σ : L2.St} : ∀ {vs : List V} {H : Hp} {Q : List V → Hp → Prop}, Q vs H → tCs vs σ H Q
  | [], _, _, q => q
  | v :: vs, H, Q, q => tCs_run (vs := vs) (Q := fun xs H2 => Q (v :: xs) H2) q
theorem key_pe {ky : Ky} {o : Option Expr} (h : keyB ky o = true) : ∃ e, o = some e ∧ PE X e (tC (kV ky)) := by
  cases o with
  | none => cases ky <;> simp [keyB] at h
  | some e =>
    refine ⟨e, rfl, ?_⟩
    cases e <;> first | (cases ky <;> simp [keyB] at h; done) | skip
    rename_i v kk pos
    cases v <;> cases ky <;> first | (simp [keyB] at h; done) | skip
    · rw [show _ = _ from of_decide_eq_true h]
      exact pe_int
    · rw [show _ = _ from of_decide_eq_true h]
      exact pe_str
theorem mtEs_len : ∀ {es : Es} {as : List Expr}, mtEs m es as = true → lenEs es = as.length
  | .nil, [], _ => rfl
  | .nil, _ :: _, h => by simp [mtEs] at h
  | .cons _ _, [], h => by simp [mtEs] at h
  | .cons e r, a :: as, h => by
    simp only [mtEs, Bool.and_eq_true] at h
    rw [lenEs, mtEs_len h.2, List.length_cons]
theorem keys_all : ∀ {ks : List Ky} {as : List (Option Expr)}, keysB ks as = true → as.all (·.isSome) = true ∧ ks.length = as.length
  | [], [], _ => ⟨rfl, rfl⟩
  | [], _ :: _, h => by simp [keysB] at h
  | _ :: _, [], h => by simp [keysB] at h
  | k :: ks, a :: as, h => by
    simp only [keysB, Bool.and_eq_true] at h
    obtain ⟨h1, h2⟩ := keys_all h.2
    have : a.isSome = true := by
      cases a with
      | none => have := h.1; cases k <;> simp [keyB] at this
      | some _ => rfl
    exact ⟨by rw [List.all_cons, this, h1]; rfl, by simp [h2]⟩
theorem lens100k {n : Nat} (h : decide (n ≤ 100000) = true) : n ≤ sizeLine := Nat.le_trans (of_decide_eq_true h) (Nat.le_trans (by decide) line1m)
theorem evEs_len : ∀ {es : Es} {e : En} {st st' : Sto} {ds : List D}, evEs C es e st = .ok ds st' → ds.length = lenEs es
  | .nil, e, st, st', ds, h => by
    cases h
    rfl
  | .cons a r, e, st, st', ds, h => by
    obtain ⟨x, s1, h1, h2⟩ := bnd_inv (f := fun x => bnd (evEs C r e) fun xs => ret (x :: xs)) h
    obtain ⟨xs, s2, h3, h4⟩ := bnd_inv h2
    cases h4
    rw [List.length_cons, evEs_len h3]
    rfl
theorem rd_len {es : Es} {σ : L2.St} {H : Hp} {Q : List V → Hp → Prop} (h : RdA C X WE es σ H Q) : RdA C X WE es σ H (fun vs H1 => vs.length = lenEs es ∧ Q vs H1) := by
  obtain ⟨FF, env, st, W, μ, S, E, p⟩ := h
  refine ⟨FF, env, st, W, μ, S, E, ?_⟩
  cases e : evEs C es env st with
  | ok ds st' =>
    rw [e] at p
    exact fun v H' W' μ' S' x r => ⟨by rw [← r.length, evEs_len e], p v H' W' μ' S' x r⟩
  | exc y st' =>
    rw [e] at p
    exact p
  | no =>
    rw [e] at p
    exact p
theorem frzs_ok {K : PySem.W.Frag} {mg : Str → Option Value} {FF : List (Addr × HO)} {H : Hp} {μ : List Addr} : ∀ {ds ds' : List D} {xs : List V} {W : Vw} {st st' : Sto}, SA K mg FF H W μ st → Rpas K mg W μ ds xs → frzDs ds st = .ok ds' st' →
    ∃ W', SA K mg FF H W' μ st' ∧ Ex2 W μ W' μ ∧ Rps K mg W' ds' xs
  | [], ds', _, W, st, st', S, r, h => by
    obtain rfl : _ = [] := r
    cases h
    exact ⟨W, S, Ex2.refl _ _, Rps.nil⟩
  | d :: ds, ds', _, W, st, st', S, r, h => by
    obtain ⟨x, q, rfl, r1, r2⟩ := r
    obtain ⟨d', s1, h1, h2⟩ := bnd_inv (f := fun x => bnd (frzDs ds) fun xs => ret (x :: xs)) h
    obtain ⟨ds2, s2, h3, h4⟩ := bnd_inv h2
    cases h4
    obtain ⟨W1, S1, x1, rr1⟩ := frz_ok S r1 h1
    obtain ⟨W2, S2, x2, rr2⟩ := frzs_ok S1 (r2.mono x1) h3
    exact ⟨W2, S2, x1.trans x2, Rps.cons (rr1.mono x2.w) rr2⟩
theorem frzs_ex : ∀ {ds : List D} {st st' : Sto} {x : Ex}, frzDs ds st = .exc x st' → False
  | [], _, _, _, h => by cases h
  | d :: ds, st, st', x, h => by
    have h' : bnd (frzD d) (fun x => bnd (frzDs ds) fun xs => ret (x :: xs)) st = .exc x st' := h
    unfold bnd at h'
    cases e : frzD d st with
    | ok a s1 =>
      rw [e] at h'
      simp only at h'
      cases e2 : frzDs ds s1 with
      | ok b s2 => rw [e2] at h'; cases h'
      | exc y s2 => exact frzs_ex e2
      | no => rw [e2] at h'; cases h'
    | exc y s1 => exact frz_ex e
    | no => rw [e] at h'; cases h'
theorem frzs_inv {α β : Type} {K : PySem.W.Frag} {mg : Str → Option Value} {rel : Rl α β} {FF : List (Addr × HO)} {W : Vw} {μ : List Addr} {τ : L2.St} {Q : β → Hp → Prop} {ds : List D} {st : Sto} {f : List D → M α} (h : Pt K mg WE rel FF τ W μ (bnd (frzDs ds) f st) Q) :
    ∃ ds' st', frzDs ds st = .ok ds' st' ∧ Pt K mg WE rel FF τ W μ (f ds' st') Q := by
  unfold bnd at h
  cases e : frzDs ds st with
  | ok a s1 =>
    rw [e] at h
    exact ⟨a, s1, rfl, h⟩
  | exc y s1 => exact (frzs_ex e).elim
  | no =>
    rw [e] at h
    exact False.elim h

/-! ### each form -/
theorem s_c (c : CtxOk C m X WE k) {kc : Cst} {v : Const} {kk : Nat} {pos : Pos} (h : cstB kc v = true) : PE X (.Constant v kk pos) (RdE C X WE (.c kc)) := by
  have fin : ∀ {v : V} (_ : ∀ W μ, Rpa X.K X.mg W μ kc.d v) σ H Q, RdE C X WE (.c kc) σ H Q → tC v σ H Q := fun {v} r σ H Q q => by
    obtain ⟨FF, env, st, W, μ, S, E, p⟩ := rd_ret (g := fun _ => kc.d) q
    exact p v (r W μ)
  cases kc <;> cases v <;> first | (simp [cstB] at h; done) | skip
  · exact pe_non.imp (fin fun W μ => rfl)
  · simp only [cstB, beq_iff_eq] at h
    subst h
    exact pe_bl.imp (fin fun W μ => rfl)
  · have h := of_decide_eq_true h
    subst h
    exact pe_int.imp (fin fun W μ => rfl)
  · have h := of_decide_eq_true h
    subst h
    exact pe_str.imp (fin fun W μ => rfl)
theorem s_v (c : CtxOk C m X WE k) {i : Nat} {x : Str} {pos : Pos} (h : varB m i x = true) : PE X (.Name x pos) (RdE C X WE (.v i)) := by
  obtain ⟨h1, h2, h3, h4⟩ := c.var h
  refine (pe_var h1 h2 h3 h4).imp ?_
  rintro σ H Q ⟨FF, env, st, W, μ, S, E, p⟩
  have p' : Pt X.K X.mg WE (relA X.K X.mg) FF σ W μ ((match env[i]? with
    | some (some d) => ret d
    | _ => no) st) Q := p
  cases e : env[i]? with
  | none => rw [e] at p'; exact False.elim p'
  | some o =>
    rw [e] at p'
    cases o with
    | none => exact False.elim p'
    | some d =>
      obtain ⟨v, ev, rv⟩ := E.at_ i d e
      exact ⟨v, ev, pt_ret S p' rv⟩
theorem s_g (c : CtxOk C m X WE k) {x y : Str} {pos : Pos} (h : gloB m x y = true) : PE X (.Name y pos) (RdE C X WE (.g x)) := by
  obtain ⟨e, hg, hd, hn⟩ := c.gl h
  subst e
  cases ec : C.con x with
  | none =>
    refine pe_void ?_
    rintro σ H Q ⟨FF, env, st, W, μ, S, E, p⟩
    have p' : Pt X.K X.mg WE (relA X.K X.mg) FF σ W μ (opt (C.con x) st) Q := p
    rw [ec] at p'
    exact p'
  | some d =>
    obtain ⟨v, u, e1, e2, e3⟩ := c.con x d ec
    refine (pe_glob hg e1 e2 hd).imp ?_
    rintro σ H Q ⟨FF, env, st, W, μ, S, E, p⟩
    have p' : Pt X.K X.mg WE (relA X.K X.mg) FF σ W μ (opt (C.con x) st) Q := p
    rw [ec] at p'
    exact pt_ret S p' (e3 W μ)
theorem s_tup (c : CtxOk C m X WE k) {es : Es} {xs : List Expr} {kk : Nat} {pos : Pos} (h : mtEs m es xs = true) (h2 : decide (xs.length ≤ 100000) = true) (ih : PA X xs (RdA C X WE es)) : PE X (.Tuple xs kk pos) (RdE C X WE (.tup es)) := by
  refine (pe_tup ih).imp ?_
  intro σ H Q q
  refine (rd_len (rd_bnd (m := evEs C es) (rel2 := relA X.K X.mg) (f := fun _ xs => bnd (frzDs xs) fun xs => ret (D.tup xs)) q)).imp ?_
  rintro vs H1 ⟨hl, FF, env, st, ds, W, μ, S, E, r, p⟩
  refine ⟨by rw [hl, mtEs_len h]; exact lens100k h2, fun p' hp' => ?_⟩
  obtain ⟨ds', st', W', S', x', r', p⟩ := frzs_pt S r p
  have le := LeW.put (o := .tup vs) (S'.gnone hp')
  refine p _ _ _ _ (S'.put hp') ⟨le, [], by simp⟩ (Rp.a ?_)
  simp only [Rp]
  exact ⟨_, vs, rfl, SqT.of upd_same, r'.mono le⟩
theorem s_lst (c : CtxOk C m X WE k) {mm : Bool} {es : Es} {xs : List Expr} {pos : Pos} (h : mtEs m es xs = true) (h2 : decide (xs.length ≤ 100000) = true) (ih : PA X xs (RdA C X WE es)) : PE X (.List xs pos) (RdE C X WE (.lst mm es)) := by
  refine (pe_lst ih).imp ?_
  intro σ H Q q
  refine (rd_len (rd_bnd (m := evEs C es) (rel2 := relA X.K X.mg) (f := fun _ xs => bnd (frzDs xs) fun xs => alloc mm (.lst xs)) q)).imp ?_
  rintro vs H1 ⟨hl, FF, env, st, ds, W, μ, S, E, r, p⟩
  refine ⟨by rw [hl, mtEs_len h]; exact lens100k h2, fun p' hp' => ?_⟩
  obtain ⟨ds', st', W', S', x', r', p⟩ := frzs_pt S r p
  exact alloc_lst S' hp' r' p
theorem s_dct0 (c : CtxOk C m X WE k) {mm : Bool} {pos : Pos} : PE X (.Dict [] [] pos) (RdE C X WE (.dct mm [] .nil)) := by
  refine pe_dnewK.imp ?_
  rintro σ H Q ⟨FF, env, st, W, μ, S, E, p⟩ p' hp'
  exact alloc_dct (ks := []) (ds := []) (vs := []) S hp' rfl List.nodup_nil Rps.nil p
theorem s_dct (c : CtxOk C m X WE k) {mm : Bool} {ks : List Ky} {es : Es} {kx : List (Option Expr)} {vx : List Expr} {pos : Pos} (h1 : keysB ks kx = true) (h2 : mtEs m es vx = true) (h3 : kx.length = vx.length) (h4 : kx.length ≤ 15) (h0 : kx ≠ [])
    (ih : PPs X pos kx vx (trsOf X.K X.mg WE C ks es)) : PE X (.Dict kx vx pos) (RdE C X WE (.dct mm ks es)) := by
  obtain ⟨g1, g2⟩ := keys_all h1
  have hlen : ks.length = lenEs es := by rw [g2, h3, mtEs_len h2]
  refine (pe_disp ih g1 h3 h0 h4).imp ?_
  rintro σ H Q ⟨FF, env, st, W, μ, S, E, p⟩ p' hp'
  have fr := S.free hp'
  refine tPairs_of hlen ⟨(p', .dK []) :: FF, env, st, W, μ, S.push fr, E, ?_⟩
  have p2 : Pt X.K X.mg WE (relA X.K X.mg) FF σ W μ (bnd (evEs C es env) (fun xs => bnd (frzDs xs) fun xs => if decide (ks.length = xs.length) && decide ks.Nodup then alloc mm (.dct ks xs) else no) st) Q := p
  unfold bnd at p2
  cases e : evEs C es env st with
  | no =>
    rw [e] at p2
    exact False.elim p2
  | exc y s1 =>
    rw [e] at p2
    exact fun H' W' μ' cls dd S' x r => p2 H' W' μ' cls dd S'.pop x r
  | ok ds s1 =>
    rw [e] at p2
    intro vs H2 W2 μ2 S2 x2 r2
    obtain ⟨ds', s2, e2, p3⟩ := frzs_inv (f := fun xs => if decide (ks.length = xs.length) && decide ks.Nodup then alloc mm (.dct ks xs) else no) p2
    obtain ⟨W3, S3, x3, r3⟩ := frzs_ok S2 r2 e2
    refine ⟨(S2.freeT fr.f).2, ks.zip vs, rfl, ?_, ?_⟩
    · rw [List.length_zip]
      rw [g2] at hlen
      omega
    · split at p3
      · rename_i cc
        obtain ⟨c1, c2⟩ := Bool.and_eq_true_iff.mp cc
        have c1 := of_decide_eq_true c1
        have c2 := of_decide_eq_true c2
        have em : mergeK [] (ks.zip vs) = ks.zip vs := by
          have := mergeK_nodup (more := ks.zip vs) (acc := []) (by
            simp only [List.map_nil, List.nil_append]
            rw [List.map_fst_zip (by rw [c1, r3.length] <;> exact Nat.le_refl _)]
            exact c2)
          simpa using this
        rw [em]
        exact alloc_dctF (S3.ffw fr.f) fr.f c1 c2 r3 (Pt.mono (x2.trans x3) p3)
      · exact False.elim p3
theorem s_bin (c : CtxOk C m X WE k) {op : Operator} {x y : Ev.E} {a b : Expr} {pos : Pos} (ha : PE X a (RdE C X WE x)) (hb : PE X b (RdE C X WE y)) : PE X (.BinOp a op b pos) (RdE C X WE (.bin op x y)) := by
  refine (pe_op (or_bin (WE := WE)) ha hb).imp ?_
  intro σ H Q q
  refine (rd_bnd2 (rel := relA X.K X.mg) (relX := relA X.K X.mg) relA_mono (m := evE C x) (m2 := evE C y) (f := fun _ p q => binD op p q) q).imp fun u H1 q1 => q1.imp ?_
  rintro v H2 ⟨FF, env, st, d, e, W, μ, S, E, r1, r2, p⟩
  exact ⟨FF, σ, st, W, μ, d, e, S, r1, r2, p⟩
theorem s_neg (c : CtxOk C m X WE k) {x : Ev.E} {a : Expr} {pos : Pos} (ha : PE X a (RdE C X WE x)) : PE X (.UnaryOp .USub a pos) (RdE C X WE (.neg x)) := by
  refine (pe_un (un_negD (WE := WE)) ha).imp ?_
  intro σ H Q q
  refine (rd_bnd (m := evE C x) (rel2 := relA X.K X.mg) (f := fun _ d => match d with
    | .int i => ret (.int (-i))
    | _ => no) q).imp ?_
  rintro v H2 ⟨FF, env, st, d, W, μ, S, E, r1, p⟩
  exact ⟨FF, σ, st, W, μ, d, S, r1, p⟩
theorem s_cmp (c : CtxOk C m X WE k) {op : CmpOp} {x y : Ev.E} {a b : Expr} {pos : Pos} (hn : nset b = true) (ha : PE X a (RdE C X WE x)) (hb : PE X b (RdE C X WE y)) : PE X (.Compare a [op] [b] pos) (RdE C X WE (.cmp op x y)) := by
  refine (pe_cmpR (or_cmp (WE := WE) (by have := c.hu; omega)) ha hb (nset_in hn)).imp ?_
  intro σ H Q q
  refine (rd_bnd2 (rel := relA X.K X.mg) (relX := relA X.K X.mg) relA_mono (m := evE C x) (m2 := evE C y) (f := fun _ p q => bnd (cmpD op p q) fun r => ret (D.bl r)) q).imp fun u H1 q1 => q1.imp ?_
  rintro v H2 ⟨FF, env, st, d, e, W, μ, S, E, r1, r2, p⟩
  exact ⟨FF, σ, st, W, μ, d, e, S, r1, r2, pt_bl p⟩
theorem s_notv (c : CtxOk C m X WE k) {x : Ev.E} {a : Expr} {pos : Pos} (ha : PE X a (RdE C X WE x)) : PE X (.UnaryOp .Not a pos) (RdE C X WE (.notv x)) := by
  refine (pe_notT ha).imp ?_
  intro σ H Q q
  refine (rd_bnd (m := evE C x) (rel2 := relA X.K X.mg) (f := fun _ d s => match truD d s with
    | some r => .ok (.bl (!r)) s
    | none => .no) q).imp ?_
  rintro v H2 ⟨FF, env, st, d, W, μ, S, E, r1, p⟩
  cases e : truD d st with
  | none => rw [e] at p; exact False.elim p
  | some r =>
    rw [e] at p
    exact tru_v ⟨FF, st, W, μ, d, r, S, r1, e, pt_ret (a := D.bl (!r)) S p rfl⟩
theorem s_ix (c : CtxOk C m X WE k) {x y : Ev.E} {a b : Expr} {pos : Pos} (hn : nsl b = true) (ha : PE X a (RdE C X WE x)) (hb : PE X b (RdE C X WE y)) : PE X (.Subscript a b pos) (RdE C X WE (.ix x y)) := by
  refine (pe_ix (ix_get (WE := WE) (by have := c.hu; omega)) ha hb (nsl_ix hn)).imp ?_
  intro σ H Q q
  refine (rd_bnd2 (rel := relA X.K X.mg) (relX := relA X.K X.mg) relA_mono (m := evE C x) (m2 := evE C y) (f := fun _ p q => Ev.getD p q) q).imp fun u H1 q1 => q1.imp ?_
  rintro v H2 ⟨FF, env, st, d, e, W, μ, S, E, r1, r2, p⟩
  exact ⟨FF, σ, st, W, μ, d, e, S, r1, r2, p⟩
theorem s_fld (c : CtxOk C m X WE k) {x : Ev.E} {f : Str} {a : Expr} {pos : Pos} (hn : nsup a = true) (ha : PE X a (RdE C X WE x)) : PE X (.Attribute a f pos) (RdE C X WE (.fld x f)) := by
  refine (pe_fld ha (nsup_base hn f X.env _)).imp ?_
  intro σ H Q q
  refine (rd_bnd (m := evE C x) (rel2 := relA X.K X.mg) (f := fun _ d => fldD d f) q).imp ?_
  rintro v H2 ⟨FF, env, st, d, W, μ, S, E, r1, p⟩
  unfold fldD at p
  cases d <;> first | exact False.elim p | skip
  rename_i cn fs xs
  dsimp only at p
  have r1' : Rp X.K X.mg W (.obj cn fs xs) v := r1
  simp only [Rp] at r1'
  obtain ⟨t, K', dx, vs, rfl, e1, e2, e3, e4, e5⟩ := r1'
  cases el : lkF fs xs f with
  | none => rw [el] at p; exact False.elim p
  | some d' =>
    rw [el] at p
    have key : ∀ {fs : List Str} {xs : List D} {vs : List V} {d' : D}, fs.length = xs.length → Rps X.K X.mg W xs vs → lkF fs xs f = some d' → f ∈ fs ∧ ∃ v, (fs.zip vs).lookup f = some v ∧ Rp X.K X.mg W d' v := by
      intro fs
      induction fs with
      | nil => intro xs vs d' l r e; cases xs <;> simp [lkF] at e
      | cons g gs ih =>
        intro xs vs d' l r e
        cases xs with
        | nil => simp at l
        | cons z zs =>
          simp only [Rps] at r
          obtain ⟨w, ws, rfl, q1, q2⟩ := r
          unfold lkF at e
          by_cases hg : g = f
          · rw [if_pos hg] at e
            cases e
            subst hg
            exact ⟨List.mem_cons_self .., w, by rw [List.zip_cons_cons, List.lookup_cons_self], q1⟩
          · rw [if_neg hg] at e
            obtain ⟨i1, w', i2, i3⟩ := ih (by simpa using l) q2 e
            refine ⟨List.mem_cons_of_mem _ i1, w', ?_, i3⟩
            rw [List.zip_cons_cons, List.lookup_cons]
            have : (f == g) = false := beq_eq_false_iff_ne.mpr (fun e => hg e.symm)
            rw [this]
            exact i2
    obtain ⟨k1, w, k2, k3⟩ := key e4 e5 el
    exact ⟨t, K', dx, _, w, rfl, S.sub _ _ e3, e2.cl, e2.na f k1, k2, pt_ret S p k3.a⟩
end
end Ev
end
section
set_option Elab.async false
set_option linter.all false
set_option maxRecDepth 100000
set_option maxHeartbeats 1000003
namespace Ev
open PySem PySem.Spec PyProof.Rows L2
variable [Gh]
section
variable {C : Cx'} {m : MC} {X : Cx} {WE : WX} {k : Nat}
theorem CtxOk.hu65 (c : CtxOk C m X WE k) : X.A.units + 65 < cLine := by have := c.hu; omega
theorem pt_cmpB {op : CmpOp} {a b : D} {K : PySem.W.Frag} {mg : Str → Option Value} {α β : Type} {rel : Rl α β} {FF : List (Addr × HO)} {W : Vw} {μ : List Addr} {σ : L2.St} {st : Sto} {f : Bool → M α} {Q : β → Hp → Prop} (h : Pt K mg WE rel FF σ W μ (bnd (cmpD op a b) f st) Q) :
    ∃ r, cmpD op a b st = .ok r st ∧ Pt K mg WE rel FF σ W μ (f r st) Q := by
  cases e : cmpO op (thD a st) (thD b st) with
  | none =>
    have e2 : cmpD op a b st = .no := by
      unfold cmpD opB
      rw [e]
    unfold bnd at h
    rw [e2] at h
    exact False.elim h
  | some r =>
    have e2 : cmpD op a b st = .ok r st := by
      unfold cmpD opB
      rw [e]
    unfold bnd at h
    rw [e2] at h
    exact ⟨r, e2, h⟩
theorem s_chainCore {α : Type} {g : Bool → α} {β : Type} {rel : Rl α β} {gb : Bool → β} (hg : ∀ b W μ, rel W μ (g b) (gb b)) {op op' : CmpOp} {x y z : Ev.E} {σ : L2.St} {H : Hp} {Q : β → Hp → Prop} {QV : VK} (hQ : ∀ b H, Q (gb b) H → QV (.bl b) H)
    (q : rd X.K X.mg WE rel (fun e => bnd (evE C x e) fun p => bnd (evE C y e) fun q => bnd (cmpD op p q) fun r => (match r with
      | false => ret (g false)
      | true => bnd (evE C z e) fun w => bnd (cmpD op' q w) fun r => ret (g r))) σ H Q) :
    tChain (rC X.K X.mg WE (cmpD op)) (rC X.K X.mg WE (cmpD op')) (RdE C X WE x) (RdE C X WE y) (RdE C X WE z) σ H QV := by
  refine (rd_bnd2 (rel := relA X.K X.mg) (relX := relA X.K X.mg) relA_mono (m := evE C x) (m2 := evE C y) (f := fun e p q => bnd (cmpD op p q) fun r => (match r with
      | false => ret (g false)
      | true => bnd (evE C z e) fun w => bnd (cmpD op' q w) fun r => ret (g r))) q).imp fun u H1 q1 => q1.imp ?_
  rintro v H2 ⟨FF, env, st, d, e, W, μ, S, E, r1, r2, p⟩
  obtain ⟨r, ec, p⟩ := pt_cmpB p
  refine ⟨FF, σ, st, W, μ, d, e, S, r1, r2, ?_⟩
  rw [ec]
  rintro b H3 W3 μ3 S3 x3 rfl
  refine ⟨_, rfl, ?_⟩
  cases r with
  | false =>
    simp only [Bool.false_eq_true, if_false]
    exact hQ _ _ (pt_ret S3 (Pt.mono x3 p) (hg _ _ _))
  | true =>
    simp only [if_true]
    refine rd_at (env := env) S3 (E.mono x3) ((pt_bnd (rel := relA X.K X.mg) (Pt.mono x3 p)).imp ?_)
    rintro w H4 ⟨d3, st4, W4, μ4, S4, x4, r3, p⟩
    refine ⟨FF, σ, st4, W4, μ4, e, d3, S4, (r2.mono x3).mono x4, r3, ?_⟩
    refine (pt_bnd (rel := relB) p).imp ?_
    rintro b H5 ⟨a, st5, W5, μ5, S5, x5, rfl, p⟩
    exact hQ _ _ (pt_ret S5 p (hg _ _ _))
theorem s_chain (c : CtxOk C m X WE k) {op op' : CmpOp} {x y z : Ev.E} {a b d : Expr} {pos : Pos} (hn : nset d = true) (ha : PE X a (RdE C X WE x)) (hb : PE X b (RdE C X WE y)) (hd : PE X d (RdE C X WE z)) : PE X (.Compare a [op, op'] [b, d] pos) (RdE C X WE (.chain op op' x y z)) :=
  (pe_chain (or_cmp (WE := WE) c.hu65) (or_cmp (WE := WE) c.hu65) ha hb hd (nset_last hn)).imp fun σ H Q q => s_chainCore (g := D.bl) (rel := relA X.K X.mg) (gb := V.bl) (fun _ _ _ => rfl) (fun _ _ h => h) q
theorem t_chain (c : CtxOk C m X WE k) {op op' : CmpOp} {x y z : Ev.E} {a b d : Expr} {pos : Pos} (hn : nset d = true) (ha : PE X a (RdE C X WE x)) (hb : PE X b (RdE C X WE y)) (hd : PE X d (RdE C X WE z)) : PT X (.Compare a [op, op'] [b, d] pos) (RdT C X WE (.chain op op' x y z)) := by
  refine (pt_chain (or_cmp (WE := WE) c.hu65) (or_cmp (WE := WE) c.hu65) ha hb hd (nset_last hn)).imp ?_
  intro σ H Q q
  refine s_chainCore (C := C) (g := fun b => b) (rel := relB) (gb := fun b => b) (fun _ _ _ => rfl) (Q := Q) (fun b H h => ⟨b, rfl, h⟩) ?_
  obtain ⟨FF, env, st, W, μ, S, E, p⟩ := q
  refine ⟨FF, env, st, W, μ, S, E, ?_⟩
  have e : evT C (.chain op op' x y z) env = (bnd (evE C x env) fun p => bnd (evE C y env) fun q => bnd (cmpD op p q) fun r => (match r with
      | false => ret false
      | true => bnd (evE C z env) fun w => bnd (cmpD op' q w) fun r => ret r)) := by
    simp only [evT]
    congr 1
    funext p
    congr 1
    funext q
    congr 1
    funext r
    cases r
    · rfl
    · show bnd (evE C z env) _ = bnd (evE C z env) _
      congr 1
      funext w
      funext s
      unfold bnd
      cases cmpD op' q w s <;> rfl
  rw [e] at p
  exact p
theorem t_cmp (c : CtxOk C m X WE k) {op : CmpOp} {x y : Ev.E} {a b : Expr} {pos : Pos} (hn : nset b = true) (ha : PE X a (RdE C X WE x)) (hb : PE X b (RdE C X WE y)) : PT X (.Compare a [op] [b] pos) (RdT C X WE (.cmp op x y)) := by
  refine (pt_cmpR (or_cmp (WE := WE) c.hu65) ha hb (nset_in hn)).imp ?_
  intro σ H Q q
  refine (rd_bnd2 (rel := relA X.K X.mg) (relX := relA X.K X.mg) relA_mono (m := evE C x) (m2 := evE C y) (rel2 := relB) (f := fun _ p q => cmpD op p q) q).imp fun u H1 q1 => q1.imp ?_
  rintro v H2 ⟨FF, env, st, d, e, W, μ, S, E, r1, r2, p⟩
  exact ⟨FF, σ, st, W, μ, d, e, S, r1, r2, p.imp fun b H q => ⟨b, rfl, q⟩⟩
theorem t_val (c : CtxOk C m X WE k) {x : Ev.E} {a : Expr} (hn : nbt a = true) (ha : PE X a (RdE C X WE x)) : PT X a (RdT C X WE (.val x)) := by
  refine (pt_truth ha (nbt_true hn X.env)).imp ?_
  intro σ H Q q
  refine (rd_bnd (m := evE C x) (rel2 := relB) (f := fun _ d s => match truD d s with
    | some r => .ok r s
    | none => .no) q).imp ?_
  rintro v H2 ⟨FF, env, st, d, W, μ, S, E, r1, p⟩
  cases e : truD d st with
  | none => rw [e] at p; exact False.elim p
  | some r =>
    rw [e] at p
    exact tru_v ⟨FF, st, W, μ, d, r, S, r1, e, pt_ret (a := r) S p rfl⟩
theorem t_not (c : CtxOk C m X WE k) {x : T} {a : Expr} {pos : Pos} (ha : PT X a (RdT C X WE x)) : PT X (.UnaryOp .Not a pos) (RdT C X WE (.not x)) := by
  refine (pt_not ha).imp ?_
  intro σ H Q q
  refine (rd_bnd (m := evT C x) (rel := relB) (rel2 := relB) (f := fun _ r => ret (!r)) q).imp ?_
  rintro b H2 ⟨FF, env, st, d, W, μ, S, E, rfl, p⟩
  exact pt_ret S p rfl
theorem rd_if {α β : Type} {rel : Rl α β} {x : T} {f g : En → M α} {σ : L2.St} {H : Hp} {Q : β → Hp → Prop} (q : rd X.K X.mg WE rel (fun e => bnd (evT C x e) fun r => (match r with
      | true => f e
      | false => g e)) σ H Q) : RdT C X WE x σ H (fun b H1 => if b = true then rd X.K X.mg WE rel f σ H1 Q else rd X.K X.mg WE rel g σ H1 Q) := by
  refine (rd_bnd (m := evT C x) (rel := relB) (rel2 := rel) (f := fun e r => (match r with
      | true => f e
      | false => g e)) q).imp ?_
  rintro b H2 ⟨FF, env, st, d, W, μ, S, E, rfl, p⟩
  cases d with
  | true =>
    simp only [if_true]
    exact ⟨FF, env, st, W, μ, S, E, p⟩
  | false =>
    simp only [Bool.false_eq_true, if_false]
    exact ⟨FF, env, st, W, μ, S, E, p⟩
theorem rd_retB {b : Bool} {σ : L2.St} {H : Hp} {Q : Bool → Hp → Prop} (q : rd X.K X.mg WE relB (fun _ => ret b) σ H Q) : Q b H := by
  obtain ⟨FF, env, st, W, μ, S, E, p⟩ := rd_ret (g := fun _ => b) q
  exact p b rfl
theorem pw_of {op : BoolOp} {es : List Expr} {pos : Pos} {t : TT} (h : PT X (.BoolOp op es pos) t) : PW X (.BoolOp op es pos) t := ⟨fun _ pins s σ H Q I q => h.run pins s σ H Q I q⟩
theorem t_and (c : CtxOk C m X WE k) {x y : T} {a b : Expr} {r : List Expr} {pos : Pos} (ha : PT X a (RdT C X WE x)) (hb : (r = [] → PT X b (RdT C X WE y)) ∧ (r ≠ [] → PT X (.BoolOp .And (b :: r) pos) (RdT C X WE y))) : PT X (.BoolOp .And (a :: b :: r) pos) (RdT C X WE (.and x y)) := by
  have hw : PW X (.BoolOp .And (b :: r) pos) (RdT C X WE y) := by
    cases r with
    | nil => exact pw_and1 (hb.1 rfl)
    | cons _ _ => exact pw_of (hb.2 (by simp))
  refine (pw_and ha hw).pt.imp ?_
  intro σ H Q q
  exact rd.imp (rd_if (f := evT C y) (g := fun _ => ret false) q) fun b H1 q1 => by
    cases b with
    | true => exact q1
    | false => exact rd_retB q1
theorem t_or (c : CtxOk C m X WE k) {x y : T} {a b : Expr} {r : List Expr} {pos : Pos} (ha : PT X a (RdT C X WE x)) (hb : (r = [] → PT X b (RdT C X WE y)) ∧ (r ≠ [] → PT X (.BoolOp .Or (b :: r) pos) (RdT C X WE y))) : PT X (.BoolOp .Or (a :: b :: r) pos) (RdT C X WE (.or x y)) := by
  have hw : PW X (.BoolOp .Or (b :: r) pos) (RdT C X WE y) := by
    cases r with
    | nil => exact pw_or1 (hb.1 rfl)
    | cons _ _ => exact pw_of (hb.2 (by simp))
  refine (pw_or ha hw).pt.imp ?_
  intro σ H Q q
  exact rd.imp (rd_if (f := fun _ => ret true) (g := evT C y) q) fun b H1 q1 => by
    cases b with
    | true => exact rd_retB q1
    | false => exact q1
theorem s_ife (c : CtxOk C m X WE k) {t : T} {x y : Ev.E} {q a b : Expr} {pos : Pos} (hq : PT X q (RdT C X WE t)) (ha : PE X a (RdE C X WE x)) (hb : PE X b (RdE C X WE y)) : PE X (.IfExp q a b pos) (RdE C X WE (.ife t x y)) :=
  (pe_ifExp hq ha hb).imp fun σ H Q q => rd_if (f := evE C x) (g := evE C y) q
theorem rd_ifM {α β : Type} {rel : Rl α β} {x : Ev.E} {f g : En → M α} {σ : L2.St} {H : Hp} {Q : β → Hp → Prop} (q : rd X.K X.mg WE rel (fun e => bnd (blM (evE C x e)) fun r => (match r with
      | true => f e
      | false => g e)) σ H Q) : RdE C X WE x σ H (fun v H1 => ∃ b, v = .bl b ∧ if b = true then rd X.K X.mg WE rel f σ H1 Q else rd X.K X.mg WE rel g σ H1 Q) := by
  refine (rd_blM (ev := evE C x) (f := fun e r => (match r with
      | true => f e
      | false => g e)) q).imp ?_
  rintro v H1 ⟨b, rfl, FF, env, st, W, μ, S, E, p⟩
  refine ⟨b, rfl, ?_⟩
  cases b with
  | true =>
    simp only [if_true]
    exact ⟨FF, env, st, W, μ, S, E, p⟩
  | false =>
    simp only [Bool.false_eq_true, if_false]
    exact ⟨FF, env, st, W, μ, S, E, p⟩
theorem rd_retD {b : Bool} {σ : L2.St} {H : Hp} {Q : VK} (q : rd X.K X.mg WE (relA X.K X.mg) (fun _ => ret (D.bl b)) σ H Q) : Q (.bl b) H := by
  obtain ⟨FF, env, st, W, μ, S, E, p⟩ := rd_ret (g := fun _ => D.bl b) q
  exact p (.bl b) rfl
theorem s_and (c : CtxOk C m X WE k) {x y : Ev.E} {a b : Expr} {r : List Expr} {pos : Pos} (ha : PE X a (RdE C X WE x)) (hb : (r = [] → PE X b (RdE C X WE y)) ∧ (r ≠ [] → PE X (.BoolOp .And (b :: r) pos) (RdE C X WE y))) : PE X (.BoolOp .And (a :: b :: r) pos) (RdE C X WE (.andv x y)) := by
  have hw : PE X (.BoolOp .And (b :: r) pos) (RdE C X WE y) := by
    cases r with
    | nil => exact pe_one (hb.1 rfl)
    | cons _ _ => exact hb.2 (by simp)
  refine (pe_and ha hw).imp ?_
  intro σ H Q q
  exact rd.imp (rd_ifM (f := evE C y) (g := fun _ => ret (D.bl false)) q) fun v H1 ⟨b, e, q1⟩ => ⟨b, e, by
    cases b with
    | true => exact q1
    | false => exact rd_retD q1⟩
theorem s_or (c : CtxOk C m X WE k) {x y : Ev.E} {a b : Expr} {r : List Expr} {pos : Pos} (ha : PE X a (RdE C X WE x)) (hb : (r = [] → PE X b (RdE C X WE y)) ∧ (r ≠ [] → PE X (.BoolOp .Or (b :: r) pos) (RdE C X WE y))) : PE X (.BoolOp .Or (a :: b :: r) pos) (RdE C X WE (.orv x y)) := by
  have hw : PE X (.BoolOp .Or (b :: r) pos) (RdE C X WE y) := by
    cases r with
    | nil => exact pe_one (hb.1 rfl)
    | cons _ _ => exact hb.2 (by simp)
  refine (pe_or ha hw).imp ?_
  intro σ H Q q
  exact rd.imp (rd_ifM (f := fun _ => ret (D.bl true)) (g := evE C y) q) fun v H1 ⟨b, e, q1⟩ => ⟨b, e, by
    cases b with
    | true => exact rd_retD q1
    | false => exact q1⟩
/-- a slice's parts -/
theorem po_of (c : CtxOk C m X WE k) {es : Es} {o : Option Expr} (h : (o = none ∧ es = .nil) ∨ ∃ x e, o = some x ∧ es = .cons e .nil ∧ PE X x (RdE C X WE e)) :
    ∃ t, PO X o t ∧ ∀ σ H (Q : Option Int → Hp → Prop), RdA C X WE es σ H (fun vs H1 => ∃ i, PV vs i ∧ Q i H1) → t σ H Q := by
  rcases h with ⟨rfl, rfl⟩ | ⟨x, e, rfl, rfl, he⟩
  · refine ⟨_, po_none, fun σ H Q q => ?_⟩
    obtain ⟨i, h | ⟨j, h, _⟩, q⟩ := rd_nil q
    · rw [h.2] at q
      exact q
    · cases h
  · refine ⟨_, po_some he, fun σ H Q q => rd.imp (rd_cons q) fun v H1 q1 => ?_⟩
    obtain ⟨i, h | ⟨j, h, e⟩, q⟩ := rd_nil q1
    · cases h.1
    · cases h
      subst e
      exact ⟨j, rfl, q⟩
theorem s_sl (c : CtxOk C m X WE k) {mm : Bool} {x : Ev.E} {lo hi : Es} {a : Expr} {l h : Option Expr} {p2 pos : Pos} (ha : PE X a (RdE C X WE x))
    (hl : (l = none ∧ lo = .nil) ∨ ∃ y e, l = some y ∧ lo = .cons e .nil ∧ PE X y (RdE C X WE e)) (hh : (h = none ∧ hi = .nil) ∨ ∃ y e, h = some y ∧ hi = .cons e .nil ∧ PE X y (RdE C X WE e)) :
    PE X (.Subscript a (.Slice l h none p2) pos) (RdE C X WE (.sl mm x lo hi)) := by
  obtain ⟨tl, pl, gl⟩ := po_of c hl
  obtain ⟨th, ph, gh⟩ := po_of c hh
  refine (pe_slice (sl_cut (WE := WE) (m := mm)) ha pl ph).imp ?_
  intro σ H Q q
  refine (rd_bnd (m := evE C x) (rel2 := relA X.K X.mg) (f := fun e x => bnd (evEs C lo e) fun l => optB (optI l) fun l => bnd (evEs C hi e) fun h => optB (optI h) fun h => cutO mm x l h) q).imp ?_
  rintro v H1 ⟨FF, env, st, d, W, μ, S, E, r, p⟩
  refine gl σ H1 _ (rd_at (env := env) S E ((pt_bnd (rel := relL X.K X.mg) p).imp ?_))
  rintro vs H2 ⟨ds, st2, W2, μ2, S2, x2, r2, p⟩
  obtain ⟨i, ei, p⟩ := optB_pt p
  refine ⟨i, optI_pv ei r2, gh σ H2 _ (rd_at (env := env) S2 (E.mono x2) ((pt_bnd (rel := relL X.K X.mg) p).imp ?_))⟩
  rintro us H3 ⟨es, st3, W3, μ3, S3, x3, r3, p⟩
  obtain ⟨j, ej, p⟩ := optB_pt p
  exact ⟨j, optI_pv ej r3, FF, σ, st3, W3, μ3, d, S3, (r.mono x2).mono x3, p⟩
theorem s_call (c : CtxOk C m X WE k) {f : Str} {es : Es} {xs : List Expr} {p pos : Pos} (hf : m.fns.contains f = true) (hg : gloB m f f = true) (hm : mtEs m es xs = true) (ih : PA X xs (RdA C X WE es)) : PE X (.Call (.Name f p) xs [] pos) (RdE C X WE (.call f es)) := by
  obtain ⟨_, g1, g2, _⟩ := c.gl hg
  have fin : ∀ σ H Q, RdE C X WE (.call f es) σ H Q → tCallG X.K X.mg WE (C.orc.fn f) (RdA C X WE es) σ H Q := fun σ H Q q => by
    refine (rd_bnd (m := evEs C es) (rel2 := relA X.K X.mg) (f := fun _ xs => C.orc.fn f xs) q).imp ?_
    rintro vs H1 ⟨FF, env, st, ds, W, μ, S, E, r, p⟩
    exact ⟨FF, st, W, μ, ds, S, r, Pt.x _ _ p⟩
  cases xs with
  | nil =>
    have ee : es = .nil := by cases es <;> first | rfl | (simp [mtEs] at hm)
    subst ee
    exact (pe_callG0 c hf g1 g2).imp fun σ H Q q => rd_nil (C := C) (fin σ H Q q)
  | cons y ys => exact (pe_callG c hf g1 g2 ih hm (by simp)).imp fin
theorem s_bi (c : CtxOk C m X WE k) {b : Bf} {es : Es} {xs : List Expr} {p pos : Pos} (hg : gloB m (bfN b) (bfN b) = true) (hm : mtEs m es xs = true) (hne : xs.isEmpty = false) (hgc : b = .gcd → m.gcd = true) (ih : PA X xs (RdA C X WE es)) : PE X (.Call (.Name (bfN b) p) xs [] pos) (RdE C X WE (.bi b es)) := by
  obtain ⟨_, g1, g2, g3⟩ := c.gl hg
  cases xs with
  | nil => cases hne
  | cons y ys =>
    cases es with
    | nil => simp [mtEs] at hm
    | cons e r =>
      simp only [mtEs, Bool.and_eq_true] at hm
      have he := nst_each hm.1.2 ys X.env
      have hpl : (backTo pos (starEach ys X.env)).any (·.1) = false := by rw [back_any, nst_all X.env hm.2]
      have fin : ∀ σ H Q, RdE C X WE (.bi b (.cons e r)) σ H Q → tCB (rL X.K X.mg WE (biD b)) (RdA C X WE (.cons e r)) σ H Q := fun σ H Q q => by
        refine (rd_bnd (m := evEs C (.cons e r)) (rel2 := relA X.K X.mg) (f := fun _ xs => biD b xs) q).imp ?_
        rintro vs H1 ⟨FF, env, st, ds, W, μ, S, E, rr, p⟩
        exact ⟨FF, σ, st, W, μ, ds, S, rr, p⟩
      have cr : CallR X (bfV b) (rL X.K X.mg WE (biD b)) := cr_bi c.calm c.room.g (by have := c.hu; omega)
      by_cases hb : b = .gcd
      · subst hb
        exact (pe_callBfun cr g1 (c.gcd (hgc rfl)) ih g2 he hpl).imp fin
      · have hbo := bfN_boot hb
        have hmg := c.bn _ (bfN_in hb)
        cases b <;> first
          | exact absurd rfl hb
          | exact (pe_callB cr g1 hmg hbo ih g3 g2 he hpl).imp fin
          | exact (pe_callTy cr g1 hmg hbo ih g3 g2 he hpl).imp fin
theorem s_mkb (c : CtxOk C m X WE k) {b : Bm} {mm : Bool} {es : Es} {xs : List Expr} {p pos : Pos} (hg : gloB m (bmN b) (bmN b) = true) (hm : mtEs m es xs = true) (hne : xs.isEmpty = false) (ih : PA X xs (RdA C X WE es)) : PE X (.Call (.Name (bmN b) p) xs [] pos) (RdE C X WE (.mkb b mm es)) := by
  obtain ⟨_, g1, g2, g3⟩ := c.gl hg
  cases xs with
  | nil => cases hne
  | cons y ys =>
    cases es with
    | nil => simp [mtEs] at hm
    | cons e r =>
      simp only [mtEs, Bool.and_eq_true] at hm
      have he := nst_each hm.1.2 ys X.env
      have hpl : (backTo pos (starEach ys X.env)).any (·.1) = false := by rw [back_any, nst_all X.env hm.2]
      have fin : ∀ σ H Q, RdE C X WE (.mkb b mm (.cons e r)) σ H Q → tCB (rL X.K X.mg WE (mkD b mm)) (RdA C X WE (.cons e r)) σ H Q := fun σ H Q q => by
        refine (rd_bnd (m := evEs C (.cons e r)) (rel2 := relA X.K X.mg) (f := fun _ xs => mkD b mm xs) q).imp ?_
        rintro vs H1 ⟨FF, env, st, ds, W, μ, S, E, rr, p⟩
        exact ⟨FF, σ, st, W, μ, ds, S, rr, p⟩
      have cr : CallR X (bmV b) (rL X.K X.mg WE (mkD b mm)) := cr_mk
      have hbo := bmN_boot (b := b)
      have hmg := c.bn _ (bmN_in (b := b))
      cases b <;> first
        | exact (pe_callB cr g1 hmg hbo ih g3 g2 he hpl).imp fin
        | exact (pe_callTy cr g1 hmg hbo ih g3 g2 he hpl).imp fin
end
end Ev
end
section
set_option Elab.async false
set_option linter.all false
set_option maxRecDepth 100000
set_option maxHeartbeats 1000003
namespace Ev
open PySem PySem.Spec PyProof.Rows L2
variable [Gh]
section
variable {C : Cx'} {m : MC} {X : Cx} {WE : WX} {k : Nat}
theorem nst_alls {m : MC} : ∀ {c : Es} {es : List Expr} (env : Env), mtEs m c es = true → (starEach es env).all (fun x => !x.1) = true ∧ (starEach es env).length = es.length
  | .nil, es, env, h => by
    cases es with
    | nil => exact ⟨rfl, rfl⟩
    | cons _ _ => simp [mtEs] at h
  | .cons e r, es, env, h => by
    cases es with
    | nil => simp [mtEs] at h
    | cons x xs =>
      simp only [mtEs, Bool.and_eq_true] at h
      obtain ⟨h1, h2⟩ := nst_alls env h.2
      rw [nst_each h.1.2, List.all_cons, h1]
      exact ⟨rfl, by simp [h2]⟩
theorem s_meth (c : CtxOk C m X WE k) {f : Me} {x : Ev.E} {es : Es} {a : Expr} {xs : List Expr} {ap cp : Pos} (hl : (ap.endLine == cp.line) = true) (hn : nsup a = true) (hm : mtEs m es xs = true) (h30 : xs.length < 30) (hne : xs ≠ []) (hf : f ≠ .bits)
    (ha : PE X a (RdE C X WE x)) (ih : PA X xs (RdA C X WE es)) : PE X (.Call (.Attribute a (meS f) ap) xs [] cp) (RdE C X WE (.met x f es)) := by
  cases xs with
  | nil => exact absurd rfl hne
  | cons y ys =>
    cases es with
    | nil => simp [mtEs] at hm
    | cons e r =>
      obtain ⟨w1, w2⟩ := nst_alls X.env hm
      have hm0 := hm
      simp only [mtEs, Bool.and_eq_true] at hm
      have he := nst_each hm.1.2 ys X.env
      have hpl : (backTo cp (starEach ys X.env)).any (·.1) = false := by rw [back_any, nst_all X.env hm.2]
      have hfew : ((backTo cp (starEach (y :: ys) X.env)).all (fun x => !x.1) && (backToKw cp (keywordEach [] X.env)).all (fun x => x.1.isSome) && decide ((y :: ys).length + ([] : List Keyword).length + (if ([] : List Keyword).isEmpty then 0 else 1) < 30)) = true := by
        have e1 : (backTo cp (starEach (y :: ys) X.env)).all (fun x => !x.1) = true := by
          unfold backTo
          rw [List.all_map]
          exact w1
        rw [e1]
        have : decide ((y :: ys).length + ([] : List Keyword).length + (if ([] : List Keyword).isEmpty then 0 else 1) < 30) = true := decide_eq_true (by simpa using h30)
        rw [this]
        rfl
      have fin : ∀ {id : String}, (∀ (b : D) (H : Hp) (W : Vw) (x : V), True) → ∀ σ H Q, RdE C X WE (.met x f (.cons e r)) σ H Q → tBM X.K "list" (rM X.K X.mg WE fun a xs => metD a f xs) (RdE C X WE x) (RdA C X WE (.cons e r)) σ H Q := fun {id} _ σ H Q q => by
        refine (rd_bnd (m := evE C x) (rel2 := relA X.K X.mg) (f := fun en d s => if metB f (thD d s) then bnd (evEs C (.cons e r) en) (fun xs => metD d f xs) s else .no) q).imp ?_
        rintro v H1 ⟨FF, env, st, d, W, μ, S, E, r1, p⟩
        split at p
        · rename_i cb
          have el : ∃ ds, thD d st = .lst ds := by
            cases f <;> first | exact absurd rfl hf | (cases e : thD d st <;> rw [e] at cb <;> first | exact ⟨_, rfl⟩ | cases cb)
          obtain ⟨ds, el⟩ := el
          obtain ⟨t, vs, rfl, q1, q2⟩ := lst_of S r1 el
          refine ⟨.inl ⟨rfl, vs, SqL.of q1⟩, rd_at (env := env) S E ((pt_bnd (rel := relL X.K X.mg) p).imp ?_)⟩
          rintro us H2 ⟨es', st2, W2, μ2, S2, x2, r2, p⟩
          exact ⟨FF, σ, st2, W2, μ2, d, es', S2, r1.mono x2, r2, p⟩
        · exact False.elim p
      cases f with
      | bits => exact absurd rfl hf
      | append => exact (pe_bm PySem.F.plainAttrs_list PySem.F.slot_list_append (by first | rfl | (with_unfolding_all rfl) | (decide +kernel)) (mt_append' (WE := WE)) ha ih (nsup_base hn _ _ _) hfew hl he hpl).imp (fin (id := "") fun _ _ _ _ => trivial)
      | insert => exact (pe_bm PySem.F.plainAttrs_list PySem.F.slot_list_insert (by first | rfl | (with_unfolding_all rfl) | (decide +kernel)) (mt_insert' (WE := WE)) ha ih (nsup_base hn _ _ _) hfew hl he hpl).imp (fin (id := "") fun _ _ _ _ => trivial)
      | pop => exact (pe_bm PySem.F.plainAttrs_list PySem.F.slot_list_pop (by first | rfl | (with_unfolding_all rfl) | (decide +kernel)) (mt_pop' (WE := WE)) ha ih (nsup_base hn _ _ _) hfew hl he hpl).imp (fin (id := "") fun _ _ _ _ => trivial)
theorem s_bits (c : CtxOk C m X WE k) {x : Ev.E} {a : Expr} {ap cp : Pos} (hl : (ap.endLine == cp.line) = true) (hn : nsup a = true) (ha : PE X a (RdE C X WE x)) : PE X (.Call (.Attribute a "bit_length" ap) [] [] cp) (RdE C X WE (.met x .bits .nil)) := by
  refine (pe_bits ha (nsup_base hn _ _ _) hl).imp ?_
  intro σ H Q q
  refine (rd_bnd (m := evE C x) (rel2 := relA X.K X.mg) (f := fun en d s => if metB .bits (thD d s) then bnd (evEs C .nil en) (fun xs => metD d .bits xs) s else .no) q).imp ?_
  rintro v H1 ⟨FF, env, st, d, W, μ, S, E, r1, p⟩
  split at p
  · have p' : Pt X.K X.mg WE (relA X.K X.mg) FF σ W μ (metD d .bits [] st) Q := p
    unfold metD at p'
    dsimp only at p'
    cases d <;> first | exact False.elim p' | skip
    rename_i i _
    obtain rfl : v = .int i := r1
    refine ⟨i, rfl, ?_⟩
    have := pt_ret (b := V.int (Builtin.Int.intBits i : Nat)) S p' (by
      show _ = _
      congr 1
      unfold Builtin.Int.intBits
      by_cases h : i = 0
      · subst h; rfl
      · rw [if_neg h, if_neg (by simpa using h)])
    exact this
  · exact False.elim p
theorem vals_ref {H : Hp} : True := trivial
theorem s_isi (c : CtxOk C m X WE k) {x : Ev.E} {kd : Kd} {a q : Expr} {p pos : Pos} (hg : gloB m "isinstance" "isinstance" = true) (hna : nst a = true) (hnq : nst q = true) (hk : kdB m kd q = true) (ha : PE X a (RdE C X WE x)) :
    PE X (.Call (.Name "isinstance" p) [a, q] [] pos) (RdE C X WE (.isi x [kd])) := by
  obtain ⟨_, g1, g2, g3⟩ := c.gl hg
  obtain ⟨v, u, h1, h2, h3⟩ := kd_ok c hk
  have pa : PA X [a, q] (tCons (RdE C X WE x) (tCons (tC v) tNil)) := pa_cons ha (pa_cons h2 pa_nil (nst_each hnq _ _)) (nst_each hna _ _)
  have hpl : (backTo pos (starEach [q] X.env)).any (·.1) = false := by rw [nst_each hnq]; rfl
  refine (pe_callB (cr_isi (WE := WE) c.isa (k := kd)) g1 (c.bn _ (by decide)) PyProof.Rows.boot_isinstance pa g3 g2 (nst_each hna _ _) hpl).imp ?_
  intro σ H Q qq
  refine (rd_bnd (m := evE C x) (rel2 := relA X.K X.mg) (f := fun _ d => isiF C.isa [kd] d) qq).imp ?_
  rintro z H1 ⟨FF, env, st, d, W, μ, S, E, r1, pp⟩
  exact ⟨FF, σ, st, W, μ, d, z, v, u, rfl, h1, S, r1, pp⟩
theorem s_isiT (c : CtxOk C m X WE k) {x : Ev.E} {ks : List Kd} {a : Expr} {cs : List Expr} {kk : Nat} {p p2 pos : Pos} (hg : gloB m "isinstance" "isinstance" = true) (hna : nst a = true) (hk : kdsB m ks cs = true) (hne : ks ≠ []) (h100 : ks.length ≤ 100) (ha : PE X a (RdE C X WE x)) :
    PE X (.Call (.Name "isinstance" p) [a, .Tuple cs kk p2] [] pos) (RdE C X WE (.isi x ks)) := by
  obtain ⟨_, g1, g2, g3⟩ := c.gl hg
  obtain ⟨vs, us, h1, h2, h3⟩ := kds_ok c hk
  have pa : PA X [a, .Tuple cs kk p2] (tCons (RdE C X WE x) (tCons (tTup (tCs vs)) tNil)) := pa_cons ha (pa_cons (pe_tup h2) pa_nil (nst_each rfl _ _)) (nst_each hna _ _)
  refine (pe_callB (cr_isiT (WE := WE) c.isa (ks := ks)) g1 (c.bn _ (by decide)) PyProof.Rows.boot_isinstance pa g3 g2 (nst_each hna _ _) rfl).imp ?_
  intro σ H Q qq
  refine (rd_bnd (m := evE C x) (rel2 := relA X.K X.mg) (f := fun _ d => isiF C.isa ks d) qq).imp ?_
  rintro z H1 ⟨FF, env, st, d, W, μ, S, E, r1, pp⟩
  refine tCs_run ⟨?_, fun tp htp => ?_⟩
  · have len : ∀ {ks : List Kd} {vs : List V} {us : List Value}, KdVs X.mg ks vs us → vs.length = ks.length := by
      intro ks vs us h
      induction h with
      | nil => rfl
      | cons _ _ ih => rw [List.length_cons, List.length_cons, ih]
    rw [len h1]
    have := line1m
    omega
  · exact ⟨FF, σ, st, W, μ, d, z, vs, us, tp, rfl, upd_same, h1, hne, S.fresh htp, r1, pp⟩
theorem s_comp (c : CtxOk C m X WE k) {mm : Bool} {own : List (Str × Nat)} {tg : Tg} {it : Ev.It} {cs : Ts} {elt : Ev.E} {x t i : Expr} {fs : List Expr} {scope : Scope} {pos : Pos} (hb : L2.blkC m.N m.sc scope own = true) (hs : nset i = true) (hi : PI X t i (rd X.K X.mg WE (relI X.K X.mg) (evIt C it)))
    (hg : ∀ (s : Shared) (H : Hp) (D : Addr) (cl : List (Str × Addr)) (fp : List Addr), PG (X.blk s H scope (compEnvC scope cl D X.env) fp) t (gP X.K X.mg (own.map (·.2)) tg))
    (ht : ∀ (s : Shared) (H : Hp) (D : Addr) (cl : List (Str × Addr)) (fp : List Addr), PTs (X.blk s H scope (compEnvC scope cl D X.env) fp) fs (rd X.K X.mg (fun _ _ _ _ => False) relB (evTs C cs)))
    (he : ∀ (s : Shared) (H : Hp) (D : Addr) (cl : List (Str × Addr)) (fp : List Addr), PE (X.blk s H scope (compEnvC scope cl D X.env) fp) x (rd X.K X.mg (fun _ _ _ _ => False) (relA X.K X.mg) (evE C elt))) :
    PE X (.ListComp x [⟨t, i, fs, 0⟩] scope pos) (RdE C X WE (.comp mm own tg it cs elt)) := by
  have ok : BlkOk X.N X.env.scope scope own := by
    rw [c.hN, c.hsc]
    exact blkOk_by hb
  exact (pe_lc c.calm (c.hN ▸ c.nd) hi ok hg ht he (nset_for hs X.env)).imp fun σ H Q q => rd_comp C q
/-- iterables -/
theorem i_seq (c : CtxOk C m X WE k) {x : Ev.E} {a t : Expr} (ha : PE X a (RdE C X WE x)) : PI X t a (rd X.K X.mg WE (relI X.K X.mg) (evIt C (.seq x))) := by
  refine (pi_seq ha).imp ?_
  intro σ H R q
  refine (rd_bnd (m := evE C x) (rel2 := relI X.K X.mg) (f := fun _ d => bnd (frzD d) fun d => opt (itemsO d)) q).imp ?_
  rintro v H1 ⟨FF, env, st, d, W, μ, S, E, r1, p⟩
  obtain ⟨d', st', W', S', x', rp, p⟩ := frz_pt S r1 p
  cases e : itemsO d' with
  | none => rw [e] at p; exact False.elim p
  | some ds =>
    rw [e] at p
    have get := items_rp (H := W'.G) (SubG.refl _) (Rpt.of (SubG.refl _) rp) e
    obtain ⟨t, vs, rfl, hq, r2⟩ := get
    refine ⟨t, vs, rfl, ?_⟩
    rcases hq with hq | hq
    · exact .inr ⟨sqT_sub S'.sub hq, pt_ret (b := Itt X.K t) S' p (ItR.tup hq r2)⟩
    · exact .inl ⟨sqL_sub S'.sub hq, pt_ret (b := Itl X.K t) S' p (ItR.list hq r2)⟩
theorem i_rng (c : CtxOk C m X WE k) {es : Es} {xs : List Expr} {p pos : Pos} {t : Expr} (hg : gloB m "range" "range" = true) (hm : mtEs m es xs = true) (hl : xs.length = 1 ∨ xs.length = 2) (ih : PA X xs (RdA C X WE es)) :
    PI X t (.Call (.Name "range" p) xs [] pos) (rd X.K X.mg WE (relI X.K X.mg) (evIt C (.rng es))) := by
  obtain ⟨_, g1, g2, g3⟩ := c.gl hg
  have hb := c.bn "range" (by decide)
  have split1 : ∀ {y : Expr}, nst y = true → starEach [y] X.env = [(false, eval y X.env)] := fun h => by rw [nst_each h]; rfl
  have hlen := mtEs_len hm
  have fin : ∀ σ H R, rd X.K X.mg WE (relI X.K X.mg) (evIt C (.rng es)) σ H R → RdA C X WE es σ H (fun vs H1 => vs.length = lenEs es ∧ ((∃ j : Int, vs = [.int j] ∧ -(2 ^ 62) ≤ j ∧ j < 2 ^ 62 ∧ R (Itr 0 j.toNat) H1) ∨ ∃ i j : Int, vs = [.int i, .int j] ∧ (-(2 ^ 62) ≤ i ∧ i < 2 ^ 62 ∧ -(2 ^ 62) ≤ j ∧ j < 2 ^ 62) ∧ R (Itr i (j - i).toNat) H1)) := fun σ H R q => by
    refine (rd_len (rd_bnd (m := evEs C es) (rel2 := relI X.K X.mg) (f := fun _ xs => opt (rngD xs)) q)).imp ?_
    rintro vs H1 ⟨hv, FF, env, st, ds, W, μ, S, E, r, p⟩
    refine ⟨hv, ?_⟩
    unfold rngD at p
    split at p
    · rename_i n
      obtain ⟨z, rfl, rz⟩ := rpas1 r
      obtain rfl : z = .int n := rz
      split at p
      · rename_i cc
        obtain ⟨c1, c2⟩ := Bool.and_eq_true_iff.mp cc
        have c1 := of_decide_eq_true c1
        have c2 := of_decide_eq_true c2
        refine .inl ⟨n, rfl, by omega, by omega, pt_ret (b := Itr 0 n.toNat) S p ?_⟩
        have := ItR.range (K := X.K) (mg := X.mg) (W := W) (lo := 0) (n := n.toNat)
        show ItR X.K X.mg W _ _
        simpa using this
      · exact False.elim p
    · rename_i n1 n2
      obtain ⟨z, w, rfl, rz, rw'⟩ := rpas2 r
      obtain rfl : z = .int n1 := rz
      obtain rfl : w = .int n2 := rw'
      split at p
      · rename_i cc
        obtain ⟨cc1, cc2⟩ := Bool.and_eq_true_iff.mp cc
        obtain ⟨c1, c2⟩ := Bool.and_eq_true_iff.mp cc1
        obtain ⟨c3, c4⟩ := Bool.and_eq_true_iff.mp cc2
        have c1 := of_decide_eq_true c1
        have c2 := of_decide_eq_true c2
        have c3 := of_decide_eq_true c3
        have c4 := of_decide_eq_true c4
        exact .inr ⟨n1, n2, rfl, ⟨by omega, by omega, by omega, by omega⟩, pt_ret (b := Itr n1 (n2 - n1).toNat) S p ItR.range⟩
      · exact False.elim p
    · exact False.elim p
  cases xs with
  | nil => simp at hl
  | cons y ys =>
    cases ys with
    | nil =>
      have hy : nst y = true := by cases es <;> simp [mtEs] at hm; exact hm.1.2
      refine (pi_range1 g1 hb ih (split1 hy)).imp ?_
      intro σ H R q
      exact rd.imp (fin σ H R q) fun vs H1 ⟨hv, h⟩ => by
        rcases h with h | ⟨i, j, e, _⟩
        · exact h
        · rw [e, hlen] at hv
          simp at hv
    | cons z zs =>
      cases zs with
      | cons _ _ => simp at hl
      | nil =>
        have hyz : nst y = true ∧ nst z = true := by
          cases es with
          | nil => simp [mtEs] at hm
          | cons _ r =>
            cases r <;> simp [mtEs] at hm
            exact ⟨hm.1.2, hm.2.1.2⟩
        refine (pi_range2 g1 hb ih (by rw [nst_each hyz.1, nst_each hyz.2]; rfl) (split1 hyz.2)).imp ?_
        intro σ H R q
        exact rd.imp (fin σ H R q) fun vs H1 ⟨hv, h⟩ => by
          rcases h with ⟨j, e, _⟩ | h
          · rw [e, hlen] at hv
            simp at hv
          · exact h
end
end Ev
end
section
set_option Elab.async false
set_option linter.all false
set_option maxRecDepth 100000
set_option maxHeartbeats 1000003
namespace Ev
open PySem PySem.Spec PyProof.Rows L2
/-! ### a list or a tuple that is walked -/
/-- the iterator's new object -/
def itO (tp : Bool) (a : Addr) : Obj := if tp then { cls := .type "tuple_iterator", data := .fields #[.ref a, .int 0 0] } else { cls := .type "list_iterator", data := .fields #[.ref a, .int 0 0] }
def seqAt (tp : Bool) (h : Heap) (a : Addr) (its : Array Value) : Prop := if tp then h.IsTuple a its else h.IsList a its
def curAt (tp : Bool) (h : Heap) (it a : Addr) (i : Nat) : Prop := if tp then h.IsTupleIter it a i else h.IsListIter it a i
theorem curAt.obj {tp : Bool} {h : Heap} {it a : Addr} {i : Nat} (c : curAt tp h it a i) : ∃ o, h.get? it = some o ∧ ∀ v, o.data ≠ .cell v := by
  cases tp with
  | true =>
    obtain ⟨o, e, _, d⟩ := c
    exact ⟨o, e, fun v q => by rw [d] at q; cases q⟩
  | false =>
    obtain ⟨o, e, _, d⟩ := c
    exact ⟨o, e, fun v q => by rw [d] at q; cases q⟩
theorem curAt.at {tp : Bool} {h h' : Heap} {it a : Addr} {i : Nat} (c : curAt tp h it a i) (k : ∀ o, h.get? it = some o → h'.get? it = some o) : curAt tp h' it a i := by
  cases tp with
  | true =>
    obtain ⟨o, e, x, d⟩ := c
    exact ⟨o, k o e, x, d⟩
  | false =>
    obtain ⟨o, e, x, d⟩ := c
    exact ⟨o, k o e, x, d⟩
theorem curAt.ne {tp tp' : Bool} {h : Heap} {it a : Addr} {i : Nat} {its : Array Value} (c : curAt tp h it a i) (q : seqAt tp' h a its) : a ≠ it := by
  intro e
  subst e
  cases tp <;> cases tp' <;> obtain ⟨o, e, x, d⟩ := c <;> first
    | (obtain ⟨o', e', x', d'⟩ := q
       rw [e] at e'
       cases e'
       rw [x] at x'
       injection x' with z
       exact absurd z (by decide))
theorem draws_of {prog : Program} {w : World} {A : Around} (hh : A.handled = none) (tp : Bool) (it a : Addr) (hne : a ≠ it) (its : Array Value) :
    Draws prog w A it [it, a] its.size (fun i v => its[i]? = some v) (fun i h => curAt tp h it a i ∧ seqAt tp h a its) := by
  cases tp with
  | true => exact Draws.tuple hh it a hne its
  | false => exact Draws.list hh it a hne its
theorem begins_of (tp : Bool) (a : Addr) (its : Array Value) : Begins (.ref a) (itO tp a) fun h => seqAt tp h a its := by
  cases tp with
  | true => exact begins_tuple a its
  | false => exact begins_list a its
theorem cur_new {tp : Bool} {h : Heap} {it a : Addr} (e : h.get? it = some (itO tp a)) : curAt tp h it a 0 := by
  cases tp with
  | true => exact ⟨_, e, rfl, rfl⟩
  | false => exact ⟨_, e, rfl, rfl⟩
theorem nat_ne (x y : Nat) (h : ¬ x = y) : @Ne Addr x y := h
/-- a list or a tuple, as it is read -/
def SqA (K : PySem.W.Frag) (tp : Bool) (H : Hp) (a : Addr) (xs : List V) : Prop := if tp then SqT K H a xs else SqL K H a xs
theorem sqA_at {X : Cx} {pins : List (Addr × Obj)} {σ : L2.St} {H : Hp} {s : Shared} {tp : Bool} {a : Addr} {xs : List V} (I : Inv X pins σ H s) (h : SqA X.K tp H a xs) : ∃ its, Vals xs its ∧ seqAt tp s.heap a its.toArray := by
  cases tp with
  | true =>
    obtain ⟨its, rv, p, _⟩ := I.tuple h
    exact ⟨its, rv, p⟩
  | false =>
    obtain ⟨its, rv, p, _⟩ := I.list h
    exact ⟨its, rv, p.isList⟩

/-! ### enumerate -/
set_option maxHeartbeats 2000003 in
theorem meets_enum1 {v : Value} {o : Obj} {Hh : Heap → Prop} (B : Begins v o Hh) :
    Meets (Builtin.«enumerate.__new__» ⟨[.type "enumerate", v], []⟩) (fun _ R s => Hh s.heap ∧
      R (.ok (.ret (.ref (s.heap.push o).objs.size))) { s with heap := (s.heap.push o).push { cls := .type "enumerate", data := .fields #[.none, .bool false, .ref s.heap.objs.size, rawInt 0, .none, .none] } }) :=
  .of_wp fun prog w A R s h => by
    obtain ⟨hp, g, d, tk, os⟩ := s; obtain ⟨h1, h⟩ := h
    have hsub := sub_enumerate
    have q1 : ∀ {A' : Around} {E : Value → Shared → Prop} {Q : Value → Shared → Prop}, Q (.ref hp.objs.size) ⟨hp.push o, g, d, tk, os⟩ → wpAny (model prog w) A' (pyIter v) Q E ⟨hp, g, d, tk, os⟩ :=
      fun q => B.iter prog w _ _ ⟨hp, g, d, tk, os⟩ _ h1 q
    wp_walk using q1
    refine wpAny_stack_any fun st => wpAny_pure ?_
    split
    · rename_i c _ _ _ _ _
      cases (c == Value.type "enumerate")
      · wp_walk using q1
        exact ⟨_, rfl, h⟩
      · wp_walk using q1
        exact ⟨_, rfl, h⟩
    · wp_walk using q1
      exact ⟨_, rfl, h⟩
theorem enum1_begins {prog : Program} {w : World} {A : Around} {E : Value → Shared → Prop} {s : Shared} {v : Value} {o : Obj} {Hh : Heap → Prop} {Q : Value → Shared → Prop} (B : Begins v o Hh) (h1 : Hh s.heap)
    (h : ∀ h', IsEnum h' (s.heap.objs.size + 1) s.heap.objs.size 0 .none → h'.get? s.heap.objs.size = some o → h'.objs.size = s.heap.objs.size + 2 →
      (∀ b o, s.heap.get? b = some o → h'.get? b = some o) → Q (.ref (s.heap.objs.size + 1)) { s with heap := h' }) :
    wpAny (model prog w) A (call (.type "enumerate") [v]) Q E s := by
  refine callType_new F.called_enumerate (by decide) (F.typeCall_enumerate_1 _) (F.newCall_enumerate_1 _) (fun obj => F.args_object_init_2 obj _) F.entry_enumerate_new
    (meets_enum1 B) ⟨h1, ?_⟩
  have hz : (s.heap.push o).objs.size = s.heap.objs.size + 1 := Heap.size_push ..
  show _ ∧ _
  rw [hz]
  have he : IsEnum ((s.heap.push o).push { cls := .type "enumerate", data := .fields #[.none, .bool false, .ref s.heap.objs.size, rawInt 0, .none, .none] }) (s.heap.objs.size + 1) s.heap.objs.size 0 .none := by
    have := Heap.get?_push_size (s.heap.push o) (o := { cls := .type "enumerate", data := .fields #[.none, .bool false, .ref s.heap.objs.size, rawInt 0, .none, .none] }) rfl
    rw [hz] at this; exact this
  refine ⟨⟨_, he, rfl⟩, h _ he (Heap.get?_push_of_some _ (Heap.get?_push_size _ B.free)) (by rw [Heap.size_push, hz]) fun b o x => Heap.get?_push_of_some _ (Heap.get?_push_of_some _ x)⟩
/-- the thing at a, each item in a new pair -/
def IteG (K : PySem.W.Frag) (tp : Bool) (a : Addr) : L2.It :=
  ⟨fun i H => ∃ (xs : List V) (x : V), SqA K tp H a xs ∧ xs[i]? = some x, fun i H v H' => ∃ T x, v = .ref T ∧ H T = none ∧ H' = upd H T (.tup [.int (i : Nat), x]) ∧ ∀ xs, SqA K tp H a xs → xs[i]? = some x, fun i H => ∃ xs : List V, SqA K tp H a xs ∧ xs.length = i⟩
theorem seq_inj {tp : Bool} {h : Heap} {a : Addr} {x y : Array Value} (p : seqAt tp h a x) (q : seqAt tp h a y) : x = y := by
  cases tp <;> obtain ⟨o, e, r⟩ := p <;> obtain ⟨o', e', r'⟩ := q <;> rw [e] at e' <;> cases e' <;>
    obtain ⟨_, n, d⟩ := r <;> obtain ⟨_, n', d'⟩ := r' <;> rw [d] at d' <;> cases d' <;> rfl
theorem vals_inj : ∀ {xs ys : List V} {us : List Value}, Vals xs us → Vals ys us → xs = ys
  | _, _, _, .nil, .nil => rfl
  | _, _, _, .cons r t, .cons r' t' => by rw [RelV.inj r r', vals_inj t t']
theorem sq_inj {X : Cx} {pins : List (Addr × Obj)} {σ : L2.St} {H : Hp} {s : Shared} {tp : Bool} {a : Addr} {xs ys : List V} (I : Inv X pins σ H s) (h : SqA X.K tp H a xs) (h' : SqA X.K tp H a ys) : xs = ys := by
  obtain ⟨u, r, p⟩ := sqA_at I h
  obtain ⟨u', r', p'⟩ := sqA_at I h'
  have e := seq_inj p p'
  have e2 : u = u' := by simpa using e
  subst e2
  exact vals_inj r r'
theorem turn_enumG {P : Program} {w : World} {K : PySem.W.Frag} {elts : List Expr} {kk : Nat} {tpos : Pos} (tp : Bool) (a e it : Addr) :
    Turn P w K (.Tuple elts kk tpos) (IteG K tp a) [e, it] e (fun i h => (∃ old, IsEnum h e it ((i : Nat) : Int) old) ∧ curAt tp h it a i ∧ e ≠ it ∧ e ≠ a) where
  mem := by simp
  obj := fun i h st b hb => by
    obtain ⟨⟨old, he⟩, hc, _⟩ := st
    have e' : b = e ∨ b = it := by simpa using hb
    rcases e' with z | z
    · rw [z]; exact ⟨_, he, fun v q => nomatch q⟩
    · rw [z]; exact hc.obj
  keep := fun i h h' st k => let ⟨⟨old, he⟩, hi, hne⟩ := st; ⟨⟨old, k e (by simp) _ he⟩, hi.at fun o q => k it (by simp) o q, hne⟩
  item := by
    intro X hP hw hK hc i pins s σ H E I hf st hg
    subst hP hw hK
    obtain ⟨⟨old, he⟩, hit, hne, hea⟩ := st
    obtain ⟨xs, x, hq, hx⟩ := hg
    obtain ⟨its, rv, p⟩ := sqA_at I hq
    obtain ⟨u, hu, ru⟩ := rv.get hx
    have hel : e < s.heap.objs.size := Heap.lt_size he
    have hil : it < s.heap.objs.size := by obtain ⟨_, q, _⟩ := hit.obj; exact Heap.lt_size q
    have hlt : i < its.toArray.size := by
      have := (List.getElem?_eq_some_iff.mp hu).1
      simpa using this
    refine wpAny_pyNext_enum_itemC (draws_of (A := X.A.in1) (I.ok.hd hc) tp it a (hit.ne p) its.toArray) he ⟨hit, p⟩ hlt hne (by simp [hne, hea]) fun x' h' tk hP' ho hs' hT hsz hk => ?_
    have ex : x' = u := by
      have hu' : its.toArray[i]? = some u := by simpa using hu
      rw [hu'] at hP'
      exact (Option.some.inj hP').symm
    subst ex
    refine ⟨_, rfl, wpAny_letOwnedTupleGo_enum (s := { s with heap := h', toks := tk + 1 }) ho fun h'' he' sb => ?_⟩
    have hT2 : h''.get? s.heap.objs.size = some { cls := .type "tuple", data := .seq #[.int i tk, x'] } := (sb.2 _ (Nat.ne_of_gt hel)).trans hT
    have new : ObjOk X.prog X.w (upd H s.heap.objs.size (.tup [.int (i : Nat), x])) h'' s.heap.objs.size (.tup [.int (i : Nat), x]) :=
      ⟨by show 2 ≤ sizeLine; decide, [.int i tk, x'], .cons ⟨_, rfl⟩ (.cons ru .nil), ⟨_, hT2, rfl, _, rfl⟩⟩
    have I1 : Inv X pins σ (upd H s.heap.objs.size (.tup [.int (i : Nat), x])) { s with heap := h'', toks := tk + 1 } :=
      I.turnedNew (ch := [e, it]) (fun b ob hb q => (sb.2 b (fun z => hb (by simp [z]))).trans (hk b ob (fun z => hb (by simp [z])) (fun z => hb (by simp [z])) q)) hf (Nat.le_refl _) new
    refine ⟨.ref s.heap.objs.size, _, I1, rfl, ⟨_, x, rfl, I.hok.fresh (Nat.le_refl _), rfl, fun ys hy => by rw [sq_inj I hy hq]; exact hx⟩, ⟨⟨x', ?_⟩, hs'.1.at fun o q => (sb.2 it (Ne.symm hne)).trans q, hne, hea⟩, fun b hb => ?_⟩
    · have e1 : ((i + 1 : Nat) : Int) = (i : Int) + 1 := by omega
      rw [e1]; exact he'
    · have hb' : b < s.heap.objs.size := by
        have e' : b = e ∨ b = it := by simpa using hb
        rcases e' with z | z
        · rw [z]; exact hel
        · rw [z]; exact hil
      rw [upd_ne (Nat.ne_of_lt hb')]
      exact (hf b hb).1
  done := by
    intro X hP hw hK hc i pins s σ H E I hf st hg
    subst hP hw hK
    obtain ⟨⟨old, he⟩, hit, hne, hea⟩ := st
    obtain ⟨xs, hq, hx⟩ := hg
    obtain ⟨its, rv, p⟩ := sqA_at I hq
    obtain ⟨f0, f1, f2, f3, f4, f5⟩ := hf it (by simp)
    have hl : i = its.toArray.size := by rw [List.size_toArray, ← rv.length, hx]
    subst hl
    exact wpAny_pyNext_enum_endD (draws_of (A := X.A.in1) (I.ok.hd hc) tp it a (hit.ne p) its.toArray) he ⟨hit, p⟩ fun h' eb => ⟨rfl, I.turned (t' := s.toks) (fun b o hb q => eb b o hb q) f0 f1 f3 f4 f5⟩
  self := fun A i s Q E st h => let ⟨⟨_, he⟩, _⟩ := st; wpAny_pyIter_enum he h
def iEnumG (K : PySem.W.Frag) (ta : TA) : TI := fun σ H R => ta σ H fun vs H1 => ∃ tp a xs, vs = [.ref a] ∧ SqA K tp H1 a xs ∧ R (IteG K tp a) H1
theorem sq_lt {X : Cx} {pins : List (Addr × Obj)} {σ : L2.St} {H : Hp} {s : Shared} {tp : Bool} {a : Addr} {xs : List V} (I : Inv X pins σ H s) (h : SqA X.K tp H a xs) : @LT.lt Nat _ a s.heap.objs.size := by
  obtain ⟨its, rv, p⟩ := sqA_at I h
  cases tp <;> (obtain ⟨o, e, _⟩ := p; exact Heap.lt_size e)
theorem pi_enumG {X : Cx} {e : Expr} {ta : TA} {p pos tpos : Pos} {elts : List Expr} {kk : Nat} (hg : L2.Gl X "enumerate") (hm : X.mg "enumerate" = none) (ha : PA X [e] ta) (hs : starEach [e] X.env = [(false, eval e X.env)]) :
    PI X (.Tuple elts kk tpos) (.Call (.Name "enumerate" p) [e] [] pos) (iEnumG X.K ta) := by
  refine ⟨fun pins s σ H R I h => ?_⟩
  refine Call_ (ld_blt I hg hm boot_enumerate (PyProof.Rows.callWith_type1 (thn (ha.run pos pins s σ H _ I h) fun us s1 ⟨vs, H1, I1, r1, q1⟩ => ?_) hs rfl))
  obtain ⟨tp, a, xs, rfl, hq, q⟩ := q1
  cases r1 with
  | cons r rr =>
    cases rr
    cases r
    obtain ⟨its, rv, p'⟩ := sqA_at I1 hq
    have hal := sq_lt I1 hq
    have hne : s1.heap.objs.size + 1 ≠ a := nat_ne _ _ (by omega)
    refine enum1_begins (begins_of tp a its.toArray) p' fun h' he hit hsz hk => wpAny_pyIter_enum he ?_
    have I2 : Inv X pins σ H1 { s1 with heap := h' } := I1.kept (t' := s1.toks) hk
    refine ⟨s1.heap.objs.size + 1, [s1.heap.objs.size + 1, s1.heap.objs.size], _, _, H1, rfl, I2, turn_enumG tp a (s1.heap.objs.size + 1) s1.heap.objs.size, ⟨⟨.none, he⟩, cur_new hit, Nat.succ_ne_self _, hne⟩, fun b hb => ?_, q⟩
    have e' : b = s1.heap.objs.size + 1 ∨ b = s1.heap.objs.size := by simpa using hb
    have hle : s1.heap.objs.size ≤ b := by
      rcases e' with z | z
      · rw [z]; exact Nat.le_add_right _ _
      · rw [z]; exact Nat.le_refl _
    exact I1.fpOk hle (I1.hok.fresh hle)

/-! ### zip of two -/
def sep2 (z TI TO i1 i2 a b : Addr) : Prop := z ≠ TI ∧ z ≠ TO ∧ TI ≠ TO ∧ TI ≠ i1 ∧ TI ≠ i2 ∧ TO ≠ i1 ∧ TO ≠ i2 ∧ z ≠ i1 ∧ z ≠ i2 ∧ i1 ≠ i2 ∧ z ≠ a ∧ z ≠ b ∧ TO ≠ a ∧ TO ≠ b ∧ i1 ≠ b ∧ i2 ≠ a
theorem sep2_zip {z TI TO i1 i2 a b : Addr} (d : sep2 z TI TO i1 i2 a b) : ZipSep2 z TI TO i1 i2 [i1, a] [i2, b] := by
  obtain ⟨d1, d2, d3, d4, d5, d6, d7, d8, d9, d10, d11, d12, d13, d14, d15, d16⟩ := d
  exact ⟨Ne.symm d1, Ne.symm d2, d3, d4, by simp, by simp [d8, d11], by simp [d6, d13], d5, by simp, by simp [d9, d12], by simp [d7, d14], by simp [d10, d15], by simp [Ne.symm d10, d16]⟩
def ItzG (K : PySem.W.Frag) (t1 t2 : Bool) (a b : Addr) : L2.It :=
  ⟨fun i H => ∃ (xs ys : List V) (x y : V), SqA K t1 H a xs ∧ SqA K t2 H b ys ∧ xs[i]? = some x ∧ ys[i]? = some y,
    fun i H v H' => ∃ T x y, v = .ref T ∧ H T = none ∧ H' = upd H T (.tup [x, y]) ∧ (∀ xs, SqA K t1 H a xs → xs[i]? = some x) ∧ ∀ ys, SqA K t2 H b ys → ys[i]? = some y,
    fun i H => ∃ xs ys : List V, SqA K t1 H a xs ∧ SqA K t2 H b ys ∧ i = min xs.length ys.length⟩
theorem turn_zipG {P : Program} {w : World} {K : PySem.W.Frag} {elts : List Expr} {kk : Nat} {tpos : Pos} {t1 t2 : Bool} {a b z TI TO i1 i2 : Addr} (D : sep2 z TI TO i1 i2 a b) :
    Turn P w K (.Tuple elts kk tpos) (ItzG K t1 t2 a b) [z, TI, TO, i1, i2] z (fun i h => IsZip h z TI TO .none ∧ IsTupOf2 h TI (.ref i1) (.ref i2) ∧ (∃ x y, IsTupOf2 h TO x y) ∧ curAt t1 h i1 a i ∧ curAt t2 h i2 b i) where
  mem := by simp
  obj := fun i h st c hc => by
    obtain ⟨hz, hTI, ⟨x, y, hTO⟩, c1, c2⟩ := st
    have e' : c = z ∨ c = TI ∨ c = TO ∨ c = i1 ∨ c = i2 := by simpa using hc
    rcases e' with q | q | q | q | q
    · rw [q]; exact ⟨_, hz, fun v q => nomatch q⟩
    · rw [q]; exact ⟨_, hTI, fun v q => nomatch q⟩
    · rw [q]; exact ⟨_, hTO, fun v q => nomatch q⟩
    · rw [q]; exact c1.obj
    · rw [q]; exact c2.obj
  keep := fun i h h' st k => by
    obtain ⟨hz, hTI, ⟨x, y, hTO⟩, h1, h2⟩ := st
    exact ⟨k z (by simp) _ hz, k TI (by simp) _ hTI, ⟨x, y, k TO (by simp) _ hTO⟩, h1.at fun o q => k i1 (by simp) o q, h2.at fun o q => k i2 (by simp) o q⟩
  item := by
    intro X hP hw hK hc i pins s σ H E I hf st hg
    subst hP hw hK
    have S2 := sep2_zip D
    obtain ⟨d1, d2, d3, d4, d5, d6, d7, d8, d9, d10, d11, d12, d13, d14, d15, d16⟩ := D
    obtain ⟨hz, hTI, ⟨x0, y0, hTO⟩, h1, h2⟩ := st
    obtain ⟨xs, ys, x, y, hqx, hqy, hx, hy⟩ := hg
    obtain ⟨its, rv, p⟩ := sqA_at I hqx
    obtain ⟨its2, rv2, p2⟩ := sqA_at I hqy
    obtain ⟨u, hu, ru⟩ := rv.get hx
    obtain ⟨u2, hu2, ru2⟩ := rv2.get hy
    have hzl : z < s.heap.objs.size := Heap.lt_size hz
    have hlt : i < its.toArray.size := by simpa using (List.getElem?_eq_some_iff.mp hu).1
    have hlt2 : i < its2.toArray.size := by simpa using (List.getElem?_eq_some_iff.mp hu2).1
    refine wpAny_pyNext_zipD2_item S2 (draws_of (A := X.A.in1) (I.ok.hd hc) t1 i1 a (h1.ne p) its.toArray) (draws_of (A := X.A.in1) (I.ok.hd hc) t2 i2 b (h2.ne p2) its2.toArray) hz hTI hTO ⟨h1, p⟩ ⟨h2, p2⟩ hlt hlt2 fun x1 x2 h' tk hP1 hP2 z' TO' s1' s2' hT hsz hk => ?_
    have e1 : x1 = u := by
      have hu' : its.toArray[i]? = some u := by simpa using hu
      rw [hu'] at hP1
      exact (Option.some.inj hP1).symm
    have e2 : x2 = u2 := by
      have hu' : its2.toArray[i]? = some u2 := by simpa using hu2
      rw [hu'] at hP2
      exact (Option.some.inj hP2).symm
    subst e1 e2
    refine ⟨_, rfl, wpAny_letOwnedTupleGo_zip (s := { s with heap := h', toks := tk }) z' fun h'' z'' sb => ?_⟩
    have hT2 : h''.get? s.heap.objs.size = some { cls := .type "tuple", data := .seq #[x1, x2] } := (sb.2 _ (Nat.ne_of_gt hzl)).trans hT
    have new : ObjOk X.prog X.w (upd H s.heap.objs.size (.tup [x, y])) h'' s.heap.objs.size (.tup [x, y]) :=
      ⟨by show 2 ≤ sizeLine; decide, [x1, x2], .cons ru (.cons ru2 .nil), ⟨_, hT2, rfl, _, rfl⟩⟩
    have I1 : Inv X pins σ (upd H s.heap.objs.size (.tup [x, y])) { s with heap := h'', toks := tk } :=
      I.turnedNew (t' := tk) (ch := [z, TI, TO, i1, i2]) (fun c o hb q => (sb.2 c (fun q' => hb (by simp [q']))).trans (hk c o (fun q' => hb (by simp [q'])) (fun q' => hb (by simp [q'])) (fun q' => hb (by simp [q'])) (fun q' => hb (by simp [q'])) q)) hf (Nat.le_refl _) new
    refine ⟨.ref s.heap.objs.size, _, I1, rfl, ⟨_, x, y, rfl, I.hok.fresh (Nat.le_refl _), rfl, fun l hl => by rw [sq_inj I hl hqx]; exact hx, fun l hl => by rw [sq_inj I hl hqy]; exact hy⟩, ⟨z'', ?_, ⟨x1, x2, ?_⟩, ?_, ?_⟩, fun c hcm => ?_⟩
    · exact (sb.2 _ (Ne.symm d1)).trans (hk _ _ (Ne.symm d1) d3 d4 d5 hTI)
    · exact (sb.2 _ (Ne.symm d2)).trans TO'
    · exact s1'.1.at fun o q => (sb.2 _ (Ne.symm d8)).trans q
    · exact s2'.1.at fun o q => (sb.2 _ (Ne.symm d9)).trans q
    · have hlt : c < s.heap.objs.size := by
        have e' : c = z ∨ c = TI ∨ c = TO ∨ c = i1 ∨ c = i2 := by simpa using hcm
        rcases e' with q | q | q | q | q
        · rw [q]; exact hzl
        · rw [q]; exact Heap.lt_size hTI
        · rw [q]; exact Heap.lt_size hTO
        · rw [q]; obtain ⟨_, e1, _⟩ := h1.obj; exact Heap.lt_size e1
        · rw [q]; obtain ⟨_, e1, _⟩ := h2.obj; exact Heap.lt_size e1
      rw [upd_ne (Nat.ne_of_lt hlt)]
      exact (hf c hcm).1
  done := by
    intro X hP hw hK hc i pins s σ H E I hf st hg
    subst hP hw hK
    obtain ⟨hz, hTI, ⟨x0, y0, hTO⟩, h1, h2⟩ := st
    obtain ⟨xs, ys, hqx, hqy, hend⟩ := hg
    obtain ⟨its, rv, p⟩ := sqA_at I hqx
    obtain ⟨its2, rv2, p2⟩ := sqA_at I hqy
    have l1 := rv.length
    have l2 := rv2.length
    refine wpAny_pyNext_zipD2_end (sep2_zip D) (draws_of (A := X.A.in1) (I.ok.hd hc) t1 i1 a (h1.ne p) its.toArray) (draws_of (A := X.A.in1) (I.ok.hd hc) t2 i2 b (h2.ne p2) its2.toArray) hz hTI hTO ⟨h1, p⟩ ⟨h2, p2⟩ (by rw [List.size_toArray]; omega) (by rw [List.size_toArray]; omega) (by rw [List.size_toArray, List.size_toArray]; omega)
      fun h' tk hk => ⟨rfl, I.turnedL (t' := tk) (ch := [z, TI, TO, i1, i2]) (fun c o hb q => hk c o (fun q' => hb (by simp [q'])) (fun q' => hb (by simp [q'])) (fun q' => hb (by simp [q'])) (fun q' => hb (by simp [q'])) q) hf⟩
  self := fun A i s Q E st h => wpAny_pyIter_zip st.1 h
def iZipG (K : PySem.W.Frag) (ta : TA) : TI := fun σ H R => ta σ H fun vs H1 => ∃ t1 t2 a b xs ys, vs = [.ref a, .ref b] ∧ SqA K t1 H1 a xs ∧ SqA K t2 H1 b ys ∧ R (ItzG K t1 t2 a b) H1
theorem pi_zipG {X : Cx} {e e2 : Expr} {ta : TA} {p pos tpos : Pos} {elts : List Expr} {kk : Nat} (hg : L2.Gl X "zip") (hm : X.mg "zip" = none) (ha : PA X [e, e2] ta)
    (hs : starEach [e, e2] X.env = (false, eval e X.env) :: starEach [e2] X.env) (hpl : (backTo pos (starEach [e2] X.env)).any (·.1) = false) :
    PI X (.Tuple elts kk tpos) (.Call (.Name "zip" p) [e, e2] [] pos) (iZipG X.K ta) := by
  refine ⟨fun pins s σ H R I h => ?_⟩
  refine Call_ (ld_blt I hg hm PyProof.Rows.boot_zip (PyProof.Rows.callWith_type1 (thn (ha.run pos pins s σ H _ I h) fun us s1 ⟨vs, H1, I1, r1, q1⟩ => ?_) hs hpl))
  obtain ⟨t1, t2, a, b, xs, ys, rfl, hqx, hqy, q⟩ := q1
  cases r1 with
  | cons r rr =>
    cases rr with
    | cons r' rr =>
      cases rr
      cases r
      cases r'
      obtain ⟨its, rv, p1⟩ := sqA_at I1 hqx
      obtain ⟨its2, rv2, p2⟩ := sqA_at I1 hqy
      have la := sq_lt I1 hqx
      have lb := sq_lt I1 hqy
      refine zip_begins2 (begins_of t1 a its.toArray) (begins_of t2 b its2.toArray) p1 p2 fun h' hz hTI hTO g1 g2 hsz hk => wpAny_pyIter_zip hz ?_
      have I2 : Inv X pins σ H1 { s1 with heap := h' } := I1.kept (t' := s1.toks) hk
      have D : sep2 (s1.heap.objs.size + 4) (s1.heap.objs.size + 2) (s1.heap.objs.size + 3) s1.heap.objs.size (s1.heap.objs.size + 1) a b := by
        refine ⟨?_, ?_, ?_, ?_, ?_, ?_, ?_, ?_, ?_, ?_, ?_, ?_, ?_, ?_, ?_, ?_⟩ <;> exact nat_ne _ _ (by omega)
      refine ⟨_, [s1.heap.objs.size + 4, s1.heap.objs.size + 2, s1.heap.objs.size + 3, s1.heap.objs.size, s1.heap.objs.size + 1], _, _, H1, rfl, I2, turn_zipG D, ⟨hz, hTI, ⟨_, _, hTO⟩, cur_new g1, cur_new g2⟩, fun c hc => ?_, q⟩
      have hle : s1.heap.objs.size ≤ c := by
        have e' : c = s1.heap.objs.size + 4 ∨ c = s1.heap.objs.size + 2 ∨ c = s1.heap.objs.size + 3 ∨ c = s1.heap.objs.size ∨ c = s1.heap.objs.size + 1 := by simpa using hc
        rcases e' with z | z | z | z | z <;> rw [z] <;> first | exact Nat.le_add_right _ _ | exact Nat.le_refl _
      exact I1.fpOk hle (I1.hok.fresh hle)
end Ev
end
section
set_option Elab.async false
set_option linter.all false
set_option maxRecDepth 100000
set_option maxHeartbeats 1000003
namespace Ev
open PySem PySem.Spec PyProof.Rows L2
variable [Gh]
theorem sqA_sub {K : PySem.W.Frag} {G H : Hp} {tp : Bool} {a : Addr} {xs : List V} (s : SubG G H) (h : SqA K tp G a xs) : SqA K tp H a xs := by
  cases tp with
  | true => exact sqT_sub s h
  | false => exact sqL_sub s h
theorem sqA_of {K : PySem.W.Frag} {H : Hp} {a : Addr} {xs : List V} (h : SqT K H a xs ∨ SqL K H a xs) : ∃ tp, SqA K tp H a xs := by
  rcases h with h | h
  · exact ⟨true, h⟩
  · exact ⟨false, h⟩
theorem pair_rp {K : PySem.W.Frag} {mg : Str → Option Value} {FF : List (Addr × HO)} {H : Hp} {W : Vw} {μ : List Addr} {st : Sto} {T : Addr} {xs : List V} {ds : List D} (S : SA K mg FF H W μ st) (hT : H T = none) (r : Rps K mg W ds xs) :
    ∃ W', SA K mg FF (upd H T (.tup xs)) W' μ st ∧ Ex2 W μ W' μ ∧ Rp K mg W' (.tup ds) (.ref T) := by
  have le := LeW.put (o := .tup xs) (S.gnone hT)
  refine ⟨_, S.put hT, ⟨le, [], by simp⟩, ?_⟩
  simp only [Rp]
  exact ⟨T, xs, rfl, SqT.of upd_same, r.mono le⟩
theorem ItR.enum {K : PySem.W.Frag} {mg : Str → Option Value} {W : Vw} {tp : Bool} {a : Addr} {vs : List V} {ds : List D} (h : SqA K tp W.G a vs) (r : Rps K mg W ds vs) : ItR K mg W ((ds.zipIdx).map fun p => D.tup [.int p.2, p.1]) (IteG K tp a) := by
  intro i FF H W' μ st le S
  have hs := sqA_sub (le.g.trans S.sub) h
  refine ⟨fun hl => ⟨vs, hs, by rw [← r.length]; simpa using hl.symm⟩, fun d hd => ?_⟩
  rw [List.getElem?_map] at hd
  obtain ⟨p, hp, rfl⟩ := Option.map_eq_some_iff.mp hd
  rw [List.getElem?_zipIdx] at hp
  obtain ⟨d, hd', rfl⟩ := Option.map_eq_some_iff.mp hp
  obtain ⟨v, hv, rv⟩ := r.get hd'
  refine ⟨⟨vs, v, hs, hv⟩, ?_⟩
  rintro x H' ⟨T, y, rfl, hT, rfl, hy⟩
  have := hy vs hs
  rw [hv] at this
  cases this
  exact pair_rp S hT (Rps.cons (by simp only [Rp]; rw [Nat.zero_add]) (Rps.cons (rv.mono le) Rps.nil))
theorem ItR.zip {K : PySem.W.Frag} {mg : Str → Option Value} {W : Vw} {t1 t2 : Bool} {a b : Addr} {vs us : List V} {ds es : List D} (h : SqA K t1 W.G a vs) (r : Rps K mg W ds vs) (h2 : SqA K t2 W.G b us) (r2 : Rps K mg W es us) :
    ItR K mg W ((ds.zip es).map fun p => D.tup [p.1, p.2]) (ItzG K t1 t2 a b) := by
  intro i FF H W' μ st le S
  have hs := sqA_sub (le.g.trans S.sub) h
  have hs2 := sqA_sub (le.g.trans S.sub) h2
  refine ⟨fun hl => ⟨vs, us, hs, hs2, by rw [← r.length, ← r2.length]; simpa using hl⟩, fun d hd => ?_⟩
  rw [List.getElem?_map] at hd
  obtain ⟨p, hp, rfl⟩ := Option.map_eq_some_iff.mp hd
  obtain ⟨hp1, hp2⟩ := List.getElem?_zip_eq_some.mp hp
  obtain ⟨v, hv, rv⟩ := r.get hp1
  obtain ⟨u, hu, ru⟩ := r2.get hp2
  refine ⟨⟨vs, us, v, u, hs, hs2, hv, hu⟩, ?_⟩
  rintro x H' ⟨T, y, z, rfl, hT, rfl, hy, hz⟩
  have e1 := hy vs hs
  rw [hv] at e1
  cases e1
  have e2 := hz us hs2
  rw [hu] at e2
  cases e2
  exact pair_rp S hT (Rps.cons (rv.mono le) (Rps.cons (ru.mono le) Rps.nil))
section
variable {C : Cx'} {m : MC} {X : Cx} {WE : WX} {k : Nat}
theorem i_enum (c : CtxOk C m X WE k) {x : Ev.E} {y : Expr} {p pos tpos : Pos} {elts : List Expr} {kk : Nat} (hg : gloB m "enumerate" "enumerate" = true) (hn : nst y = true) (ha : PE X y (RdE C X WE x)) :
    PI X (.Tuple elts kk tpos) (.Call (.Name "enumerate" p) [y] [] pos) (rd X.K X.mg WE (relI X.K X.mg) (evIt C (.enum x))) := by
  obtain ⟨_, g1, g2, g3⟩ := c.gl hg
  refine (pi_enumG g1 (c.bn _ (by decide)) (pa_cons ha pa_nil (nst_each hn _ _)) (by rw [nst_each hn]; rfl)).imp ?_
  intro σ H R q
  refine (rd_bnd (m := evE C x) (rel2 := relI X.K X.mg) (f := fun _ d => bnd (frzD d) fun d => opt ((itemsO d).map fun xs => (xs.zipIdx).map fun p => D.tup [.int p.2, p.1])) q).imp ?_
  rintro v H1 ⟨FF, env, st, d, W, μ, S, E, r1, p⟩
  obtain ⟨d', st', W', S', x', rp, p⟩ := frz_pt S r1 p
  cases e : itemsO d' with
  | none => rw [e] at p; exact False.elim p
  | some ds =>
    rw [e] at p
    obtain ⟨t, vs, rfl, hq, r2⟩ := items_rp (H := W'.G) (SubG.refl _) (Rpt.of (SubG.refl _) rp) e
    obtain ⟨tp, hq⟩ := sqA_of hq
    exact ⟨tp, t, vs, rfl, sqA_sub S'.sub hq, pt_ret (b := IteG X.K tp t) S' p (ItR.enum hq r2)⟩
theorem i_zip (c : CtxOk C m X WE k) {es : Es} {xs : List Expr} {p pos tpos : Pos} {elts : List Expr} {kk : Nat} (hg : gloB m "zip" "zip" = true) (hm : mtEs m es xs = true) (hl : xs.length = 2) (ih : PA X xs (RdA C X WE es)) :
    PI X (.Tuple elts kk tpos) (.Call (.Name "zip" p) xs [] pos) (rd X.K X.mg WE (relI X.K X.mg) (evIt C (.zip es))) := by
  obtain ⟨_, g1, g2, g3⟩ := c.gl hg
  match xs, hl with
  | [y, z], _ =>
    have hyz : nst y = true ∧ nst z = true := by
      cases es with
      | nil => simp [mtEs] at hm
      | cons _ r =>
        cases r <;> simp [mtEs] at hm
        exact ⟨hm.1.2, hm.2.1.2⟩
    refine (pi_zipG g1 (c.bn _ (by decide)) ih (nst_each hyz.1 _ _) (by rw [nst_each hyz.2]; rfl)).imp ?_
    intro σ H R q
    refine (rd_len (rd_bnd (m := evEs C es) (rel2 := relI X.K X.mg) (f := fun _ xs => bnd (frzDs xs) fun xs => opt ((itemsOs xs).map fun l => (zipD l).map D.tup)) q)).imp ?_
    rintro vs H1 ⟨hv, FF, env, st, ds, W, μ, S, E, r1, p⟩
    obtain ⟨ds', st', W', S', x', rp, p⟩ := frzs_pt S r1 p
    rw [mtEs_len hm] at hv
    have hd : ds'.length = 2 := by rw [rp.length, hv]; rfl
    match ds', hd with
    | [d1, d2], _ =>
      simp only [Rps] at rp
      obtain ⟨v1, _, rfl, q1, v2, _, rfl, q2, rfl⟩ := rp
      cases e1 : itemsO d1 with
      | none => simp only [itemsOs, e1] at p; exact False.elim p
      | some l1 =>
        cases e2 : itemsO d2 with
        | none => simp only [itemsOs, e1, e2] at p; exact False.elim p
        | some l2 =>
          simp only [itemsOs, e1, e2] at p
          obtain ⟨t1, u1, rfl, h1, rr1⟩ := items_rp (H := W'.G) (SubG.refl _) (Rpt.of (SubG.refl _) q1) e1
          obtain ⟨t2, u2, rfl, h2, rr2⟩ := items_rp (H := W'.G) (SubG.refl _) (Rpt.of (SubG.refl _) q2) e2
          obtain ⟨p1, h1⟩ := sqA_of h1
          obtain ⟨p2, h2⟩ := sqA_of h2
          refine ⟨p1, p2, t1, t2, u1, u2, rfl, sqA_sub S'.sub h1, sqA_sub S'.sub h2, pt_ret (b := ItzG X.K p1 p2 t1 t2) S' p ?_⟩
          have e : (zipD [l1, l2]).map D.tup = (l1.zip l2).map fun p => D.tup [p.1, p.2] := by
            simp only [zipD]
            rw [List.map_map]
            have e3 : l1.zip (l2.map ([·])) = (l1.zip l2).map (fun p => (p.1, [p.2])) := by
              rw [List.zip_map_right]
              rfl
            rw [e3, List.map_map]
            rfl
          show ItR X.K X.mg W' _ _
          simp only [Option.map_some]
          rw [e]
          exact ItR.zip h1 rr1 h2 rr2
end
end Ev
end
section
set_option Elab.async false
set_option linter.all false
set_option maxRecDepth 100000
set_option maxHeartbeats 1000003
namespace Ev
open PySem PySem.Spec PyProof.Rows L2
variable [Gh]
section
variable {C : Cx'} {m : MC} {X : Cx} {WE : WX} {k : Nat}
theorem s_cal (c : CtxOk C m X WE k) {i : Nat} {x : Str} {es : Es} {xs : List Expr} {p pos : Pos} (hv : varB m i x = true) (hm : mtEs m es xs = true) (ih : PA X xs (RdA C X WE es)) : PE X (.Call (.Name x p) xs [] pos) (RdE C X WE (.cal i es)) := by
  cases xs with
  | nil =>
    have ee : es = .nil := by cases es <;> first | rfl | (simp [mtEs] at hm)
    subst ee
    refine (pe_cal0 c hv).imp ?_
    rintro σ H Q ⟨FF, env, st, W, μ, S, E, p⟩
    simp only [evE] at p
    cases e : env[i]? with
    | none => rw [e] at p; exact False.elim p
    | some o =>
      cases o with
      | none => rw [e] at p; exact False.elim p
      | some d =>
        rw [e] at p
        obtain ⟨v, hs, r⟩ := E.at_ i d e
        cases d <;> first | exact False.elim p | skip
        · rename_i f
          have r' := r
          simp only [Rpa, Rp] at r'
          obtain ⟨a, rfl, h1, h2⟩ := r'
          exact ⟨a, hs, .inl ⟨f, h1, h2, FF, st, W, μ, [], S, rfl, Pt.x _ _ p⟩⟩
        · rename_i l
          have r' := r
          simp only [Rpa, Rp] at r'
          obtain ⟨a, o, c', oc, rfl, _⟩ := id r'
          exact ⟨a, hs, .inr ⟨l, FF, st, W, μ, S, r, Pt.x _ _ p⟩⟩
  | cons y ys =>
    refine (pe_calG c hv ih hm (by simp)).imp ?_
    rintro σ H Q ⟨FF, env, st, W, μ, S, E, p⟩
    simp only [evE] at p
    cases e : env[i]? with
    | none => rw [e] at p; exact False.elim p
    | some o =>
      cases o with
      | none => rw [e] at p; exact False.elim p
      | some d =>
        rw [e] at p
        obtain ⟨v, hs, r⟩ := E.at_ i d e
        cases d <;> first | exact False.elim p | skip
        · rename_i f
          have r' := r
          simp only [Rpa, Rp] at r'
          obtain ⟨a, rfl, h1, h2⟩ := r'
          refine ⟨a, f, hs, h1, h2, FF, env, st, W, μ, S, E, (pt_bnd (rel := relL X.K X.mg) p).imp ?_⟩
          rintro vs H1 ⟨ds, st', W', μ', S', x', r', p'⟩
          exact ⟨FF, st', W', μ', ds, S', r', Pt.x _ _ p'⟩
        · cases es with
          | nil => simp [mtEs] at hm
          | cons _ _ => exact False.elim p
end
end Ev
end
section
set_option Elab.async false
set_option linter.all false
set_option maxRecDepth 100000
set_option maxHeartbeats 1000003
namespace Ev
open PySem PySem.Spec PyProof.Rows L2
/-! ### cells that are known for a while -/
abbrev CFs := List (Addr × Obj)
def addC (H : Hp) : CFs → Hp
  | [] => H
  | p :: r => upd (addC H r) p.1 (cellO p.1 p.2)
def delC (H : Hp) : CFs → Hp
  | [] => H
  | p :: r => L2.del (delC H r) p.1
theorem cellO_ext {a : Addr} {o : Obj} : cellO a o = .ext fun h => h.get? a = some o := rfl
section
variable {H H' : Hp} {cf : CFs} {a b : Addr} {o : Obj}
theorem addC_ne : ∀ {cf : CFs}, b ∉ cf.map (·.1) → addC H cf b = H b
  | [], _ => rfl
  | p :: r, h => by
    simp only [List.map_cons, List.mem_cons, not_or] at h
    show upd (addC H r) p.1 _ b = _
    rw [upd_ne h.1]
    exact addC_ne h.2
theorem addC_in : ∀ {cf : CFs}, (cf.map (·.1)).Nodup → ∀ p ∈ cf, addC H cf p.1 = some (cellO p.1 p.2)
  | [], _, _, h => nomatch h
  | q :: r, nd, p, h => by
    obtain ⟨n1, n2⟩ := List.nodup_cons.mp nd
    rcases List.mem_cons.mp h with e | h
    · subst e
      exact upd_same
    · have ne : p.1 ≠ q.1 := fun e => n1 (by show q.1 ∈ _; rw [← e]; exact List.mem_map_of_mem h)
      show upd (addC H r) q.1 _ p.1 = _
      rw [upd_ne ne]
      exact addC_in n2 p h
theorem delC_in : ∀ {cf : CFs}, b ∈ cf.map (·.1) → delC H cf b = none
  | [], h => nomatch h
  | p :: r, h => by
    show L2.del (delC H r) p.1 b = none
    by_cases e : b = p.1
    · rw [e, del_same]
    · rw [del_ne e]
      exact delC_in ((List.mem_cons.mp h).resolve_left e)
theorem delC_ne : ∀ {cf : CFs}, b ∉ cf.map (·.1) → delC H cf b = H b
  | [], _ => rfl
  | p :: r, h => by
    simp only [List.map_cons, List.mem_cons, not_or] at h
    show L2.del (delC H r) p.1 b = _
    rw [del_ne h.1]
    exact delC_ne h.2
theorem addC_none (h : addC H cf b = none) : H b = none ∧ b ∉ cf.map (·.1) := by
  have n : b ∉ cf.map (·.1) := fun hm => by
    induction cf with
    | nil => nomatch hm
    | cons p r ih =>
      have h' : upd (addC H r) p.1 (cellO p.1 p.2) b = none := h
      by_cases e : b = p.1
      · rw [e, upd_same] at h'
        cases h'
      · rw [upd_ne e] at h'
        exact ih h' ((List.mem_cons.mp hm).resolve_left e)
  exact ⟨by rw [addC_ne n] at h; exact h, n⟩
theorem not_own {x : Addr} : cellO a o ≠ .own x := fun z => by
  rw [cellO_ext] at z
  cases z
theorem not_tup {xs : List V} : cellO a o ≠ .tup xs := fun z => by
  rw [cellO_ext] at z
  cases z
theorem not_frz {o' : Obj} {u : HO} : cellO a o ≠ .frz o' u := fun z => by
  rw [cellO_ext] at z
  cases z
theorem not_tbl {ps : Array Value} : cellO a o ≠ .tbl ps := fun z => by
  rw [cellO_ext] at z
  cases z
theorem not_lst {ps : List V} : cellO a o ≠ .lst ps := fun z => by
  rw [cellO_ext] at z
  cases z
theorem not_dK {ps : List (Key × V)} : cellO a o ≠ .dK ps := fun z => by
  rw [cellO_ext] at z
  cases z
theorem not_ins {C dx : Addr} {fs : List (Str × V)} : cellO a o ≠ .ins C dx fs := fun z => by
  rw [cellO_ext] at z
  cases z
theorem out_of (h : H b = some v) (hc : ∀ p ∈ cf, H p.1 = none) : b ∉ cf.map (·.1) := fun hm => by
  obtain ⟨p, hp, e⟩ := List.mem_map.mp hm
  rw [← e, hc p hp] at h
  cases h
theorem out_in {u : HO} (h : H b = some u) (hc : ∀ p ∈ cf, H p.1 = some (cellO p.1 p.2)) (hu : ∀ a o, cellO a o ≠ u) : b ∉ cf.map (·.1) := fun hm => by
  obtain ⟨p, hp, e⟩ := List.mem_map.mp hm
  rw [← e, hc p hp] at h
  exact hu _ _ (Option.some.inj h)
end
section
variable {P : Program} {w : World} {H H' : Hp} {h h' B : Heap} {cf : CFs} {fs : List Addr}
theorem cell_ok {a : Addr} {o : Obj} (e : h.get? a = some o) : ObjOk P w H h a (cellO a o) := ⟨e, ⟨o, e⟩, fun h1 h2 z k => k _ z⟩
theorem cell_at {a : Addr} {o : Obj} (x : ObjOk P w H h a (cellO a o)) : h.get? a = some o := by
  have y : ObjOk P w H h a (.ext fun h => h.get? a = some o) := x
  exact y.1
theorem mem_fst {b : Addr} (hb : b ∈ cf.map (·.1)) : ∃ p ∈ cf, p.1 = b := List.mem_map.mp hb
/-- cells get known -/
theorem hok_add (k : HOk P w H h) (nd : (cf.map (·.1)).Nodup) (hc : ∀ p ∈ cf, H p.1 = none ∧ h.get? p.1 = some p.2) : HOk P w (addC H cf) h := by
  intro b o e
  by_cases hb : b ∈ cf.map (·.1)
  · obtain ⟨p, hp, rfl⟩ := mem_fst hb
    rw [addC_in nd p hp] at e
    cases e
    exact cell_ok (hc p hp).2
  · rw [addC_ne hb] at e
    have out : ∀ {c : Addr} {u : HO}, H c = some u → addC H cf c = some u := fun {c u} hu => by
      rw [addC_ne (out_of hu fun p hp => (hc p hp).1)]
      exact hu
    exact (k b o e).stay (fun c v _ z => z) (fun c z => out z) fun c xs z => out z
/-- .. and are forgotten -/
theorem hok_del (k : HOk P w H h) (hc : ∀ p ∈ cf, H p.1 = some (cellO p.1 p.2)) : HOk P w (delC H cf) h := by
  intro b o e
  have hb : b ∉ cf.map (·.1) := fun z => by
    rw [delC_in z] at e
    cases e
  rw [delC_ne hb] at e
  exact (k b o e).stay (fun c v _ z => z) (fun c z => by rw [delC_ne (out_in z hc fun _ _ => not_own)]; exact z) fun c xs z => by rw [delC_ne (out_in z hc fun _ _ => not_tup)]; exact z
/-- a call made with cells known, seen without -/
theorem un_cut (u : Un fs [] (addC H cf) H' h h') (k : HOk P w H' h') (nd : (cf.map (·.1)).Nodup) (hc : ∀ p ∈ cf, H p.1 = none ∧ h.get? p.1 = some p.2) (hc' : ∀ p ∈ cf, H' p.1 = some (cellO p.1 p.2)) : Un fs [] H (delC H' cf) h h' ∧ HOk P w (delC H' cf) h' := by
  have at2 : ∀ p ∈ cf, h'.get? p.1 = some p.2 := fun p hp => cell_at (k _ _ (hc' p hp))
  have same : ∀ {b : Addr} {o : Obj}, b ∈ cf.map (·.1) → h.get? b = some o → h'.get? b = some o := fun {b o} hb e => by
    obtain ⟨p, hp, rfl⟩ := mem_fst hb
    rw [(hc p hp).2] at e
    rw [at2 p hp]
    exact e
  have up : ∀ {b : Addr}, H b = none → b ∉ cf.map (·.1) → addC H cf b = none := fun {b} n hb => by rw [addC_ne hb]; exact n
  have keep : ∀ {b : Addr} {v : HO}, H b = some v → addC H cf b = some v ∧ b ∉ cf.map (·.1) := fun {b v} e => by
    have n := out_of e fun p hp => (hc p hp).1
    exact ⟨by rw [addC_ne n]; exact e, n⟩
  refine ⟨⟨fun b o e n hf hx => ?_, fun b o e n hf hx => ?_, fun b o e n hx => ?_, fun b o e hx => u.there b o e hx, fun b xs e => ?_, fun b o v e => ?_, fun b ps e => ?_⟩, hok_del k hc'⟩
  · by_cases hb : b ∈ cf.map (·.1)
    · exact same hb e
    · exact u.keep b o e (up n hb) hf hx
  · by_cases hb : b ∈ cf.map (·.1)
    · exact ⟨o.slots, same hb e⟩
    · exact u.slot b o e (up n hb) hf hx
  · by_cases hb : b ∈ cf.map (·.1)
    · exact delC_in hb
    · rw [delC_ne hb]
      exact u.free b o e (up n hb) hx
  · obtain ⟨e1, nb⟩ := keep e
    rw [delC_ne nb]
    exact u.tups b xs e1
  · obtain ⟨e1, nb⟩ := keep e
    rw [delC_ne nb]
    exact u.frzs b o v e1
  · obtain ⟨e1, nb⟩ := keep e
    rw [delC_ne nb]
    exact u.tbls b ps e1
section
variable (nd : (cf.map (·.1)).Nodup) (hc : ∀ p ∈ cf, H p.1 = some (cellO p.1 p.2)) (k : HOk P w H h) (nf : ∀ p ∈ cf, p.1 ∉ fs)
include nd hc k nf
/-- a call made without them, seen with them known -/
theorem un_add (u : Un fs [] (delC H cf) H' h h') (k' : HOk P w H' h') : (∀ p ∈ cf, H' p.1 = none) ∧ Un fs [] H (addC H' cf) h h' ∧ HOk P w (addC H' cf) h' := by
  have at1 : ∀ p ∈ cf, h.get? p.1 = some p.2 := fun p hp => cell_at (k _ _ (hc p hp))
  have dn : ∀ p ∈ cf, delC H cf p.1 = none := fun p hp => delC_in (List.mem_map_of_mem hp)
  have at2 : ∀ p ∈ cf, h'.get? p.1 = some p.2 := fun p hp => u.keep _ _ (at1 p hp) (dn p hp) (nf p hp) (by simp)
  have n2 : ∀ p ∈ cf, H' p.1 = none := fun p hp => u.free _ _ (at1 p hp) (dn p hp) (by simp)
  have low : ∀ {b : Addr}, H b = none → delC H cf b = none ∧ b ∉ cf.map (·.1) := fun {b} n => by
    have nb : b ∉ cf.map (·.1) := fun hm => by
      obtain ⟨p, hp, rfl⟩ := mem_fst hm
      rw [hc p hp] at n
      cases n
    exact ⟨by rw [delC_ne nb]; exact n, nb⟩
  have keep : ∀ {b : Addr} {v : HO}, H b = some v → (∀ a o, cellO a o ≠ v) → delC H cf b = some v ∧ b ∉ cf.map (·.1) := fun {b v} e ne => by
    have nb := out_in e hc ne
    exact ⟨by rw [delC_ne nb]; exact e, nb⟩
  refine ⟨n2, ⟨fun b o e n hf hx => u.keep b o e (low n).1 hf hx, fun b o e n hf hx => u.slot b o e (low n).1 hf hx, fun b o e n hx => ?_, fun b o e hx => u.there b o e hx, fun b xs e => ?_, fun b o v e => ?_, fun b ps e => ?_⟩, hok_add k' nd fun p hp => ⟨n2 p hp, at2 p hp⟩⟩
  · rw [addC_ne (low n).2]
    exact u.free b o e (low n).1 hx
  · obtain ⟨e1, nb⟩ := keep e fun _ _ => not_tup
    rw [addC_ne nb]
    exact u.tups b xs e1
  · obtain ⟨e1, nb⟩ := keep e fun _ _ => not_frz
    rw [addC_ne nb]
    exact u.frzs b o v e1
  · obtain ⟨e1, nb⟩ := keep e fun _ _ => not_tbl
    rw [addC_ne nb]
    exact u.tbls b ps e1
/-- .. with an exception let out -/
theorem ub_add (u : UB fs (delC H cf) H' h B h') (k' : HOk P w H' B) : (∀ p ∈ cf, H' p.1 = none ∧ B.get? p.1 = some p.2) ∧ UB fs H (addC H' cf) h B h' ∧ HOk P w (addC H' cf) B := by
  have at1 : ∀ p ∈ cf, h.get? p.1 = some p.2 := fun p hp => cell_at (k _ _ (hc p hp))
  have dn : ∀ p ∈ cf, delC H cf p.1 = none := fun p hp => delC_in (List.mem_map_of_mem hp)
  have at2 : ∀ p ∈ cf, B.get? p.1 = some p.2 := fun p hp => u.keep _ _ (at1 p hp) (dn p hp) (nf p hp)
  have n2 : ∀ p ∈ cf, H' p.1 = none := fun p hp => u.free _ _ (at1 p hp) (dn p hp)
  have low : ∀ {b : Addr}, H b = none → delC H cf b = none ∧ b ∉ cf.map (·.1) := fun {b} n => by
    have nb : b ∉ cf.map (·.1) := fun hm => by
      obtain ⟨p, hp, rfl⟩ := mem_fst hm
      rw [hc p hp] at n
      cases n
    exact ⟨by rw [delC_ne nb]; exact n, nb⟩
  have keep : ∀ {b : Addr} {v : HO}, H b = some v → (∀ a o, cellO a o ≠ v) → delC H cf b = some v ∧ b ∉ cf.map (·.1) := fun {b v} e ne => by
    have nb := out_in e hc ne
    exact ⟨by rw [delC_ne nb]; exact e, nb⟩
  refine ⟨fun p hp => ⟨n2 p hp, at2 p hp⟩, ⟨fun b o e n hf => u.keep b o e (low n).1 hf, u.slot, fun b o e n => ?_, u.there, fun b xs e => ?_, fun b o v e => ?_, fun b ps e => ?_⟩, hok_add k' nd fun p hp => ⟨n2 p hp, at2 p hp⟩⟩
  · rw [addC_ne (low n).2]
    exact u.free b o e (low n).1
  · obtain ⟨e1, nb⟩ := keep e fun _ _ => not_tup
    rw [addC_ne nb]
    exact u.tups b xs e1
  · obtain ⟨e1, nb⟩ := keep e fun _ _ => not_frz
    rw [addC_ne nb]
    exact u.frzs b o v e1
  · obtain ⟨e1, nb⟩ := keep e fun _ _ => not_tbl
    rw [addC_ne nb]
    exact u.tbls b ps e1
end
end
section
variable {P : Program} {w : World} {K : PySem.W.Frag} {mg : Str → Option Value} {base : Heap} {A : Around} {outer : List Env} {s : Shared} {H : Hp} {cf : CFs}
theorem env0_add (e : Env0 P w K mg base A outer s H) (nd : (cf.map (·.1)).Nodup) (hc : ∀ p ∈ cf, H p.1 = none ∧ s.heap.get? p.1 = some p.2) (hb : ∀ p ∈ cf, base.get? p.1 = none) (nf : ∀ p ∈ cf, p.1 ∉ frs outer) : Env0 P w K mg base A outer s (addC H cf) := by
  refine ⟨e.frames, e.mod, fun b o q => ⟨(e.bs b o q).1, ?_⟩, e.bsz, e.funs, fun b hm => ?_, hok_add e.hok nd hc, e.bare⟩
  · rw [addC_ne fun hm => ?_]
    · exact (e.bs b o q).2
    · obtain ⟨p, hp, rfl⟩ := mem_fst hm
      rw [hb p hp] at q
      cases q
  · rw [addC_ne fun hm' => ?_]
    · exact e.frf b hm
    · obtain ⟨p, hp, rfl⟩ := mem_fst hm'
      exact nf p hp hm
theorem env0_del (e : Env0 P w K mg base A outer s H) (hc : ∀ p ∈ cf, H p.1 = some (cellO p.1 p.2)) : Env0 P w K mg base A outer s (delC H cf) := by
  have low : ∀ {b : Addr}, H b = none → delC H cf b = none := fun {b} n => by
    by_cases hb : b ∈ cf.map (·.1)
    · exact delC_in hb
    · rw [delC_ne hb]
      exact n
  exact ⟨e.frames, e.mod, fun b o q => ⟨(e.bs b o q).1, low (e.bs b o q).2⟩, e.bsz, e.funs, fun b hm => low (e.frf b hm), hok_del e.hok hc, e.bare⟩
end
end Ev
end
section
set_option Elab.async false
set_option linter.all false
set_option maxRecDepth 100000
set_option maxHeartbeats 4000003
namespace Ev
open PySem PySem.Spec PyProof.Rows L2
variable [Gh]
section
variable {K : PySem.W.Frag} {mg : Str → Option Value} {FF : List (Addr × HO)} {H : Hp} {W : Vw} {μ : List Addr} {st : Sto} {cf : CFs}
def Vw.cut (W : Vw) (cf : CFs) : Vw := ⟨delC W.G cf⟩
def Vw.add (W : Vw) (cf : CFs) : Vw := ⟨addC W.G cf⟩
section
variable (hG : ∀ p ∈ cf, W.G p.1 = some (cellO p.1 p.2)) (hS : ∀ p ∈ cf, ∃ i, Gh.S i = some p.1)
include hG
theorem cut_at {a : Addr} {u : HO} (h : W.G a = some u) (n : ∀ b o, cellO b o ≠ u) : (W.cut cf).G a = some u := by
  show delC W.G cf a = some u
  rw [delC_ne (out_in h hG n)]
  exact h
theorem cut_sqT {a : Addr} {xs : List V} (h : SqT K W.G a xs) : SqT K (W.cut cf).G a xs := by
  rcases h with (h | ⟨o, h⟩) | h
  · exact .inl (.inl (cut_at hG h fun _ _ => not_tup))
  · exact .inl (.inr ⟨o, cut_at hG h fun _ _ => not_frz⟩)
  · exact .inr h
theorem cut_sqL {a : Addr} {xs : List V} (h : SqL K W.G a xs) : SqL K (W.cut cf).G a xs := by
  rcases h with (h | ⟨o, h⟩) | h
  · exact .inl (.inl (cut_at hG h fun _ _ => not_lst))
  · exact .inl (.inr ⟨o, cut_at hG h fun _ _ => not_frz⟩)
  · exact .inr h
include hS
mutual
theorem Rp.cut : ∀ {d : D} {v : V}, Rp K mg W d v → Rp K mg (W.cut cf) d v
  | .non, _, r => by simp only [Rp] at r ⊢; exact r
  | .bl _, _, r => by simp only [Rp] at r ⊢; exact r
  | .int _, _, r => by simp only [Rp] at r ⊢; exact r
  | .str _, _, r => by simp only [Rp] at r ⊢; exact r
  | .tup ds, _, r => by
    simp only [Rp] at r ⊢
    obtain ⟨a, vs, e, q, r⟩ := r
    exact ⟨a, vs, e, cut_sqT hG q, Rps.cut r⟩
  | .lst ds, _, r => by
    simp only [Rp] at r ⊢
    obtain ⟨a, vs, e, q, r⟩ := r
    exact ⟨a, vs, e, cut_at hG q fun _ _ => not_lst, Rps.cut r⟩
  | .scr ns, _, r => by
    simp only [Rp] at r ⊢
    obtain ⟨a, e, q⟩ := r
    exact ⟨a, e, cut_sqL hG q⟩
  | .dct ks ds, _, r => by
    simp only [Rp] at r ⊢
    obtain ⟨a, vs, e, q, l, n, r⟩ := r
    exact ⟨a, vs, e, cut_at hG q fun _ _ => not_dK, l, n, Rps.cut r⟩
  | .obj c fs ds, _, r => by
    simp only [Rp] at r ⊢
    obtain ⟨a, C, dx, vs, e, m, k, q, l, r⟩ := r
    exact ⟨a, C, dx, vs, e, m, k, cut_at hG q fun _ _ => not_ins, l, Rps.cut r⟩
  | .fn f, _, r => by simp only [Rp] at r ⊢; exact r
  | .clo l, _, r => by
    simp only [Rp] at r ⊢
    obtain ⟨f, o, c, oc, e, p, g, gc, n⟩ := r
    have out : ∀ {b : Addr}, (∀ i a, Gh.S i = some a → a ≠ b) → b ∉ cf.map (·.1) := fun {b} h hm => by
      obtain ⟨p, hp, e⟩ := mem_fst hm
      obtain ⟨i, hi⟩ := hS p hp
      exact h i _ hi e
    exact ⟨f, o, c, oc, e, p, (by show delC W.G cf f = _; rw [delC_ne (out fun i a h => (n i a h).1)]; exact g), (by show delC W.G cf c = _; rw [delC_ne (out fun i a h => (n i a h).2)]; exact gc), n⟩
  | .mu _, _, r => by simp only [Rp] at r
theorem Rps.cut : ∀ {ds : List D} {vs : List V}, Rps K mg W ds vs → Rps K mg (W.cut cf) ds vs
  | [], _, r => by simp only [Rps] at r ⊢; exact r
  | d :: ds, _, r => by
    simp only [Rps] at r ⊢
    obtain ⟨v, q, e, r1, r2⟩ := r
    exact ⟨v, q, e, Rp.cut r1, Rps.cut r2⟩
end
theorem SA.cuts (S : SA K mg FF H W μ st) (ne : ∀ (k : Nat) is xs, st[k]? = some (.env is xs) → is = []) : SA K mg FF (delC H cf) (W.cut cf) μ st := by
  have hH : ∀ p ∈ cf, H p.1 = some (cellO p.1 p.2) := fun p hp => S.sub _ _ (hG p hp)
  have low : ∀ {b : Addr}, W.G b = none → (W.cut cf).G b = none := fun {b} n => by
    show delC W.G cf b = none
    by_cases hb : b ∈ cf.map (·.1)
    · exact delC_in hb
    · rw [delC_ne hb]
      exact n
  have up : ∀ {b : Addr} {u : HO}, H b = some u → (∀ a o, cellO a o ≠ u) → delC H cf b = some u := fun {b u} e n => by
    rw [delC_ne (out_in e hH n)]
    exact e
  refine ⟨fun b u e => ?_, S.len, fun k o e => ?_, S.inj, fun p hp => ?_⟩
  · have e' : delC W.G cf b = some u := e
    have nb : b ∉ cf.map (·.1) := fun hm => by
      rw [delC_in hm] at e'
      cases e'
    rw [delC_ne nb] at e' ⊢
    exact S.sub b u e'
  · have r := S.sto k o e
    cases o with
    | lst ds =>
      obtain ⟨a, vs, ea, h1, h2, h3⟩ := r
      exact ⟨a, vs, ea, up h1 fun _ _ => not_lst, low h2, Rps.cut hG hS h3⟩
    | dct ks ds =>
      obtain ⟨a, vs, ea, h1, h2, h3, h4, h5⟩ := r
      exact ⟨a, vs, ea, up h1 fun _ _ => not_dK, low h2, h3, h4, Rps.cut hG hS h5⟩
    | fr d =>
      obtain ⟨a, ea, h1⟩ := r
      exact ⟨a, ea, Rp.cut hG hS h1⟩
    | env is xs =>
      have := ne k is xs e
      subst this
      have r' : EnvR K mg W [] xs := r
      cases xs with
      | nil => exact True.intro
      | cons _ _ => exact r'.elim
  · obtain ⟨h1, h2, h3⟩ := S.ff p hp
    have nb : p.1 ∉ cf.map (·.1) := fun hm => by
      obtain ⟨q, hq, e⟩ := mem_fst hm
      have := hG q hq
      rw [e, h2] at this
      cases this
    exact ⟨by rw [delC_ne nb]; exact h1, low h2, h3⟩
end
theorem SA.adds (S : SA K mg FF H W μ st) : ∀ {cf : CFs}, (cf.map (·.1)).Nodup → (∀ p ∈ cf, H p.1 = none) → SA K mg FF (addC H cf) (W.add cf) μ st
  | [], _, _ => S
  | p :: r, nd, hc => by
    obtain ⟨n1, n2⟩ := List.nodup_cons.mp nd
    have ih := S.adds (cf := r) n2 fun q hq => hc q (List.mem_cons_of_mem _ hq)
    exact ih.put (by rw [addC_ne n1]; exact hc p List.mem_cons_self)
theorem LeW.add (nd : (cf.map (·.1)).Nodup) (hc : ∀ p ∈ cf, W.G p.1 = none) : LeW W (W.add cf) := ⟨fun a o h => by
  show addC W.G cf a = some o
  rw [addC_ne (out_of h hc)]
  exact h⟩
/-- a frame's record is exchanged -/
theorem SA.setE {j : Nat} {o mo : MO} (S : SA K mg FF H W μ st) (hj : st[j]? = some o) (hl : o.live = false) (hm : MoR K mg W H μ[j]? mo) (hl' : mo.live = false) : SA K mg FF H W μ (st.set j mo) := by
  have bk : ∀ {k : Nat} {u : MO}, (st.set j mo)[k]? = some u → u.live = true → st[k]? = some u := fun {k u} e l => by
    rcases get_set e with ⟨rfl, rfl, _⟩ | ⟨_, e⟩
    · rw [hl'] at l
      cases l
    · exact e
  refine ⟨S.sub, by rw [List.length_set]; exact S.len, fun k u e => ?_, fun i k u u' a e1 e2 l1 l2 m1 m2 => S.inj i k u u' a (bk e1 l1) (bk e2 l2) l1 l2 m1 m2, fun p hp => ?_⟩
  · rcases get_set e with ⟨rfl, rfl, _⟩ | ⟨_, e⟩
    · exact hm
    · exact S.sto k u e
  · obtain ⟨h1, h2, h3⟩ := S.ff p hp
    exact ⟨h1, h2, fun k u e l => h3 k u (bk e l) l⟩
theorem noEnv_get {s : Sto} (h : noEnv s = true) {k : Nat} {is : List Nat} {xs : List D} (e : s[k]? = some (.env is xs)) : is = [] := by
  unfold noEnv at h
  have := List.all_eq_true.mp h _ (List.mem_of_getElem? e)
  cases is with
  | nil => rfl
  | cons _ _ => simp at this
theorem envS_get : ∀ {s : Sto} {j : Nat} {is : List Nat} {xs : List D}, envS s = some (j, is, xs) → s[j]? = some (.env is xs) ∧ ∀ (k : Nat) is' xs', k ≠ j → s[k]? = some (.env is' xs') → is' = []
  | [], _, _, _, h => by simp [envS] at h
  | o :: s, j, is, xs, h => by
    have tail : (∀ i r ys, o ≠ .env (i :: r) ys) → (envS s).map (fun q => (q.1 + 1, q.2)) = some (j, is, xs) → (o :: s)[j]? = some (.env is xs) ∧ ∀ (k : Nat) is' xs', k ≠ j → (o :: s)[k]? = some (.env is' xs') → is' = [] := fun no hm => by
      obtain ⟨⟨j', q⟩, e1, e2⟩ := Option.map_eq_some_iff.mp hm
      cases e2
      obtain ⟨h1, h2⟩ := envS_get e1
      refine ⟨by simpa using h1, fun k is' xs' hk e => ?_⟩
      cases k with
      | zero =>
        simp at e
        subst e
        cases is' with
        | nil => rfl
        | cons i r => exact absurd rfl (no i r xs')
      | succ k => exact h2 k is' xs' (by omega) (by simpa using e)
    cases o with
    | env is0 xs0 =>
      cases is0 with
      | cons i r =>
        simp only [envS] at h
        split at h
        · rename_i hn
          cases h
          refine ⟨rfl, fun k is' xs' hk e => ?_⟩
          cases k with
          | zero => exact absurd rfl hk
          | succ k => exact noEnv_get hn (by simpa using e)
        · cases h
      | nil => exact tail (fun _ _ _ e => by cases e) (by simpa only [envS] using h)
    | lst _ => exact tail (fun _ _ _ e => by cases e) (by simpa only [envS] using h)
    | dct _ _ => exact tail (fun _ _ _ e => by cases e) (by simpa only [envS] using h)
    | fr _ => exact tail (fun _ _ _ e => by cases e) (by simpa only [envS] using h)
/-! ### a frame's record read -/
def fillS (σ : L2.St) : List Nat → List V → L2.St
  | i :: is, v :: vs => fillS (σ.set i (some v)) is vs
  | _, _ => σ
theorem fillS_len : ∀ {is : List Nat} {vs : List V} {σ : L2.St}, (fillS σ is vs).length = σ.length
  | [], _, _ => rfl
  | _ :: _, [], _ => rfl
  | i :: is, v :: vs, σ => by
    show (fillS (σ.set i (some v)) is vs).length = _
    rw [fillS_len, List.length_set]
theorem fillS_re : ∀ {is : List Nat} {ds : List D} {vs : List V} {σ : L2.St} {env : En}, RE K mg W μ σ env → Rps K mg W ds vs → RE K mg W μ (fillS σ is vs) (fillE env is ds)
  | [], _, _, _, _, E, _ => E
  | _ :: _, [], _, _, _, E, r => by
    simp only [Rps] at r
    subst r
    exact E
  | i :: is, d :: ds, vs, σ, env, E, r => by
    simp only [Rps] at r
    obtain ⟨v, q, rfl, r1, r2⟩ := r
    show RE K mg W μ (fillS (σ.set i (some v)) is q) (fillE (setE env i d) is ds)
    exact fillS_re (E.set r1.a) r2
/-- what the record tells: cells, their values -/
theorem env_cells : ∀ {is : List Nat} {ds : List D}, EnvR K mg W is ds → is.Nodup → (∀ i j a, Gh.S i = some a → Gh.S j = some a → i = j) → ∃ (cf : CFs) (vs : List V), Rps K mg W ds vs ∧ (cf.map (·.1)).Nodup ∧ (∀ p ∈ cf, W.G p.1 = some (cellO p.1 p.2) ∧ ∃ i, i ∈ is ∧ Gh.S i = some p.1) ∧ (∀ i ∈ is, ∃ a o u, Gh.S i = some a ∧ (a, o) ∈ cf ∧ o.data = .cell (some u)) ∧
    ∀ {σ : L2.St} (i : Nat) (v : V), (fillS σ is vs)[i]? = some (some v) → σ[i]? = some (some v) ∨ ∃ a o u, Gh.S i = some a ∧ (a, o) ∈ cf ∧ o.data = .cell (some u) ∧ RelV v u
  | [], [], _, _, _ => ⟨[], [], Rps.nil, List.nodup_nil, (fun p h => nomatch h), (fun i h => nomatch h), (fun i v h => Or.inl h)⟩
  | [], _ :: _, h, _, _ => h.elim
  | _ :: _, [], h, _, _ => h.elim
  | i :: is, d :: ds, ⟨⟨a, o, u, v, h1, h2, h3, h4, h5⟩, t⟩, nd, inj => by
    obtain ⟨n1, n2⟩ := List.nodup_cons.mp nd
    obtain ⟨cf, vs, r, nd', hc, hi', hf⟩ := env_cells t n2 inj
    refine ⟨(a, o) :: cf, v :: vs, Rps.cons h5 r, List.nodup_cons.mpr ⟨fun hm => ?_, nd'⟩, fun p hp => ?_, fun j hj => ?_, fun {σ} j w hj => ?_⟩
    · obtain ⟨p, hp, e⟩ := mem_fst hm
      obtain ⟨_, i', hi, hS⟩ := hc p hp
      rw [e] at hS
      exact n1 (inj i i' a h1 hS ▸ hi)
    · rcases List.mem_cons.mp hp with e | hp
      · subst e
        exact ⟨h2, i, List.mem_cons_self, h1⟩
      · obtain ⟨q1, i', hi, hS⟩ := hc p hp
        exact ⟨q1, i', List.mem_cons_of_mem _ hi, hS⟩
    · rcases List.mem_cons.mp hj with e | hj
      · subst e
        exact ⟨a, o, u, h1, List.mem_cons_self, h3⟩
      · obtain ⟨a', o', u', q1, q2, q3⟩ := hi' j hj
        exact ⟨a', o', u', q1, List.mem_cons_of_mem _ q2, q3⟩
    · rcases hf j w hj with hj | ⟨a', o', u', q1, q2, q3, q4⟩
      · by_cases e : i = j
        · subst e
          by_cases hl : i < σ.length
          · rw [List.getElem?_set_self hl] at hj
            cases hj
            exact .inr ⟨a, o, u, h1, List.mem_cons_self, h3, h4⟩
          · rw [List.getElem?_eq_none (by simpa using hl)] at hj
            cases hj
        · rw [List.getElem?_set_ne e] at hj
          exact .inl hj
      · exact .inr ⟨a', o', u', q1, List.mem_cons_of_mem _ q2, q3, q4⟩
end
end Ev
end
section
set_option Elab.async false
set_option linter.all false
set_option maxRecDepth 100000
set_option maxHeartbeats 4000003
namespace Ev
open PySem PySem.Spec PyProof.Rows L2
variable [Gh]
/-- a row of captured slots beside their cells -/
def CfR (σ : L2.St) : List Nat → CFs → Prop
  | [], [] => True
  | i :: is, p :: cf => (∃ u v, Gh.S i = some p.1 ∧ σ[i]? = some (some v) ∧ p.2.data = .cell (some u) ∧ RelV v u) ∧ CfR σ is cf
  | _, _ => False
/-- .. beside their values -/
def CapR (σ : L2.St) : List Nat → List V → Prop
  | [], [] => True
  | i :: is, v :: vs => σ[i]? = some (some v) ∧ CapR σ is vs
  | _, _ => False
section
variable {K : PySem.W.Frag} {mg : Str → Option Value} {FF : List (Addr × HO)} {H : Hp} {W : Vw} {μ : List Addr} {st : Sto} {σ : L2.St} {env : En}
theorem cap_of (E : RE K mg W μ σ env) : ∀ {is : List Nat} {ys : List D}, capD env is = some ys → ∃ vs, Rpas K mg W μ ys vs ∧ CapR σ is vs
  | [], ys, h => by
    cases h
    exact ⟨[], rfl, True.intro⟩
  | i :: is, ys, h => by
    simp only [capD] at h
    cases e : env[i]? with
    | none => rw [e] at h; cases h
    | some o =>
      cases o with
      | none => rw [e] at h; cases h
      | some d =>
        rw [e] at h
        obtain ⟨zs, h1, rfl⟩ := Option.map_eq_some_iff.mp h
        obtain ⟨vs, r, c⟩ := cap_of E h1
        obtain ⟨v, hv, rv⟩ := E.at_ i d e
        exact ⟨v :: vs, ⟨v, vs, rfl, rv, r⟩, hv, c⟩
theorem envR_of {cf0 : CFs} (hG : ∀ p ∈ cf0, W.G p.1 = some (cellO p.1 p.2)) : ∀ {is : List Nat} {ys : List D} {vs : List V} {cf : CFs}, (∀ p ∈ cf, p ∈ cf0) → Rps K mg W ys vs → CapR σ is vs → CfR σ is cf → EnvR K mg W is ys
  | [], ys, vs, cf, _, r, c, f => by
    cases vs with
    | nil =>
      cases ys with
      | nil => exact True.intro
      | cons _ _ =>
        simp only [Rps] at r
        obtain ⟨_, _, e, _⟩ := r
        cases e
    | cons _ _ => exact c.elim
  | i :: is, ys, vs, cf, hs, r, c, f => by
    cases vs with
    | nil => exact c.elim
    | cons v vs =>
      cases cf with
      | nil => exact f.elim
      | cons p cf =>
        cases ys with
        | nil =>
          simp only [Rps] at r
          cases r
        | cons y ys =>
          simp only [Rps] at r
          obtain ⟨_, _, e, r1, r2⟩ := r
          cases e
          obtain ⟨c1, c2⟩ := c
          obtain ⟨⟨u, v', f1, f2, f3, f4⟩, ft⟩ := f
          rw [c1] at f2
          cases f2
          exact ⟨⟨p.1, p.2, u, v, f1, hG p (hs p List.mem_cons_self), f3, f4, r1⟩, envR_of hG (fun q hq => hs q (List.mem_cons_of_mem _ hq)) r2 c2 ft⟩
/-- a frame's record is told -/
theorem SA.newE {a0 : Addr} {mo : MO} (S : SA K mg FF H W μ st) (hl : mo.live = false) (hm : MoR K mg W H (some a0) mo) : SA K mg FF H W (μ ++ [a0]) (st ++ [mo]) := by
  have hk : ∀ {k : Nat}, k < st.length → (μ ++ [a0])[k]? = μ[k]? := fun {k} h => List.getElem?_append_left (by rw [S.len]; exact h)
  have he : (μ ++ [a0])[st.length]? = some a0 := by rw [← S.len]; simp
  have lv : ∀ {k : Nat} {u : MO}, (st ++ [mo])[k]? = some u → u.live = true → k < st.length ∧ st[k]? = some u := fun {k u} e l => by
    rcases get_snoc e with h | ⟨_, e⟩
    · exact h
    · rw [e, hl] at l
      cases l
  refine ⟨S.sub, by rw [List.length_append, List.length_append, S.len]; rfl, fun k u e => ?_, fun j k u u' a e1 e2 l1 l2 m1 m2 => ?_, fun p hp => ?_⟩
  · rcases get_snoc e with ⟨h, e⟩ | ⟨h, e⟩
    · rw [hk h]
      exact S.sto k u e
    · rw [h, he, e]
      exact hm
  · obtain ⟨h1, g1⟩ := lv e1 l1
    obtain ⟨h2, g2⟩ := lv e2 l2
    rw [hk h1] at m1
    rw [hk h2] at m2
    exact S.inj j k u u' a g1 g2 l1 l2 m1 m2
  · obtain ⟨q1, q2, q3⟩ := S.ff p hp
    refine ⟨q1, q2, fun k u e l => ?_⟩
    obtain ⟨h1, g1⟩ := lv e l
    rw [hk h1]
    exact q3 k u g1 l
end
section
variable {C : Cx'} {m : MC} {X : Cx} {WE : WX} {k : Nat}
/-- the captured cells as they stand -/
theorem cells_now (c : CtxOk C m X WE k) (T : TopOk m X) {pins : List (Addr × Obj)} {σ : L2.St} {H : Hp} {s : Shared} (I : Inv X pins σ H s) : ∀ {is : List Nat}, cellsB m is = true → is.Nodup → (∀ i ∈ is, ∃ v, σ[i]? = some (some v)) →
    ∃ cf : CFs, CfR σ is cf ∧ (cf.map (·.1)).Nodup ∧ ∀ p ∈ cf, H p.1 = none ∧ s.heap.get? p.1 = some p.2 ∧ X.base.get? p.1 = none ∧ p.1 ∉ frs X.stack ∧ ∃ i ∈ is, Gh.S i = some p.1
  | [], _, _, _ => ⟨[], True.intro, List.nodup_nil, fun _ h => nomatch h⟩
  | i :: is, hc, nd, hv => by
    obtain ⟨n1, n2⟩ := List.nodup_cons.mp nd
    simp only [cellsB, Bool.and_eq_true] at hc
    obtain ⟨cf, h1, h2, h3⟩ := cells_now c T I hc.2 n2 fun j hj => hv j (List.mem_cons_of_mem _ hj)
    cases e : m.N[i]? with
    | none => rw [e] at hc; exact absurd hc.1 (by simp)
    | some y =>
      rw [e] at hc
      have hy := of_decide_eq_true hc.1
      obtain ⟨a, ha, hS⟩ := T.get i y e hy
      obtain ⟨v, hσ⟩ := hv i List.mem_cons_self
      obtain ⟨mm, hn, hl⟩ := I.loc
      obtain ⟨u, ru, lk⟩ := hl i y v (by rw [c.hN]; exact e) hσ (.inr (.inl (by rw [c.hsc]; exact hy)))
      have hk : X.env.kindOf y = some .cell := by
        unfold Env.kindOf
        rw [c.hsc]
        exact hy
      rcases lk with ⟨h, _⟩ | ⟨_, a', ha', o, ho, hd⟩
      · rw [hk] at h
        cases h
      · rw [ha] at ha'
        cases ha'
        have big : X.s_0.heap.objs.size ≤ a := I.ok.cab y a (T.fnT y) ha
        refine ⟨(a, o) :: cf, ⟨⟨u, v, hS, hσ, hd, ru⟩, h1⟩, List.nodup_cons.mpr ⟨fun hm => ?_, h2⟩, fun p hp => ?_⟩
        · obtain ⟨p, hp, ep⟩ := mem_fst hm
          obtain ⟨_, _, _, _, j, hj, hSj⟩ := h3 p hp
          rw [ep] at hSj
          have : i = j := T.sj i j a hS hSj
          exact n1 (this ▸ hj)
        · rcases List.mem_cons.mp hp with ep | hp
          · subst ep
            refine ⟨I.freeC y a ha, ho, ?_, ?_, i, List.mem_cons_self, hS⟩
            · cases eb : X.base.get? a with
              | none => rfl
              | some ob => exact absurd (Heap.lt_size eb) (Nat.not_lt.mpr (Nat.le_trans I.ok.bsz big))
            · intro hm
              rcases List.mem_cons.mp (I.stkSub a hm) with z | z
              · exact I.cne y a ha z
              · obtain ⟨_, o', ho', _⟩ := I.ok.funs.mem z
                exact absurd (Heap.lt_size ho') (Nat.not_lt.mpr big)
          · obtain ⟨q1, q2, q3, q4, j, hj, q5⟩ := h3 p hp
            exact ⟨q1, q2, q3, q4, j, List.mem_cons_of_mem _ hj, q5⟩
/-- f(e, ..), the captured cells known to it -/
def tCallC (K : PySem.W.Frag) (mg : Str → Option Value) (fn : List D → M D) (is : List Nat) (t : TA) : TE := fun σ H Q => t σ H fun vs H1 => (∀ i ∈ is, ∃ v, σ[i]? = some (some v)) ∧ ∀ cf, CfR σ is cf → (cf.map (·.1)).Nodup → (∀ p ∈ cf, H1 p.1 = none ∧ ∃ i, Gh.S i = some p.1) →
  spG K mg fn vs (addC H1 cf) (fun v H2 => (∀ p ∈ cf, H2 p.1 = some (cellO p.1 p.2)) ∧ Q v (delC H2 cf)) (fun _ _ _ => False)
theorem pe_callC {f : Str} {p pos : Pos} {es : List Expr} {t : TA} {ce : Es} {is : List Nat} (c : CtxOk C m X WE k) (T : TopOk m X) (hi : cellsB m is = true) (nd : is.Nodup) (hf : m.fns.contains f = true) (hg : L2.Gl X f) (hd : (f == ("__debug__" : Str)) = false) (ha : PA X es t) (hm : mtEs m ce es = true) (hne : es ≠ []) :
    PE X (.Call (.Name f p) es [] pos) (tCallC X.K X.mg (C.orc.fn f) is t) := by
  obtain ⟨a, h1, h2⟩ := c.fns f (by simpa using hf)
  refine ⟨fun pins s σ H Q I h => wpAny_Call_Name_kw (ld_glob I hg h1 ?_ hd)⟩
  cases ce with
  | nil =>
    cases es with
    | nil => exact absurd rfl hne
    | cons _ _ => simp [mtEs] at hm
  | cons c1 cr =>
    cases es with
    | nil => exact absurd rfl hne
    | cons e es =>
      simp only [mtEs, Bool.and_eq_true] at hm
      refine PySem.W.callWith_K (h₀ := X.base) I.ok.mod.kin h2 (thn (ha.run pos pins s σ H _ I h) fun us s1 ⟨vs, H1, I1, r, hv, q⟩ => ⟨I1.kIn, ?_⟩) (nst_each hm.1.2 es X.env) (by rw [back_any, nst_all X.env hm.2])
      obtain ⟨cf, q1, q2, q3⟩ := cells_now c T I1 hi nd hv
      have hc1 : ∀ p ∈ cf, H1 p.1 = none ∧ s1.heap.get? p.1 = some p.2 := fun p hp => ⟨(q3 p hp).1, (q3 p hp).2.1⟩
      have go := q cf q1 q2 fun p hp => ⟨(q3 p hp).1, (q3 p hp).2.2.2.2.elim fun i h => ⟨i, h.2⟩⟩
      refine wpAny_call (codeAny_mono (c.fnc f a h1 X.A X.stack s1 (addC H1 cf) us vs _ _ c.room (env0_add I1.env0 q2 hc1 (fun p hp => (q3 p hp).2.2.1) fun p hp => (q3 p hp).2.2.2.1) r go) fun r s' hq => ?_)
      cases r with
      | error er =>
        obtain ⟨_, _, _, _, _, _, _, _, _, _, _, _, z⟩ := hq
        exact z.elim
      | ok fl =>
        cases fl with
        | ret u =>
          obtain ⟨v, H', os, bare, un, hok, rv, hc', q'⟩ := hq
          obtain ⟨un2, hok2⟩ := un_cut un hok q2 hc1 hc'
          exact I1.after ⟨v, delC H' cf, os, bare, un2, hok2, rv, q'⟩
        | next => exact False.elim hq
        | brk => exact False.elim hq
        | cont => exact False.elim hq
theorem s_callC (c : CtxOk C m X WE k) {f : Str} {es : Es} {xs : List Expr} {is : List Nat} {p pos : Pos} (ht : m.top = true) (hi : cellsB m is = true) (nd : is.Nodup) (hf : m.fns.contains f = true) (hg : gloB m f f = true) (hm : mtEs m es xs = true) (hne : xs ≠ []) (ih : PA X xs (RdA C X WE es)) :
    PE X (.Call (.Name f p) xs [] pos) (RdE C X WE (.callC f es is)) := by
  obtain ⟨_, g1, g2, _⟩ := c.gl hg
  refine (pe_callC (is := is) c (c.top ht) hi nd hf g1 g2 ih hm hne).imp ?_
  intro σ H Q q
  refine (rd_bnd (m := evEs C es) (rel2 := relA X.K X.mg) (f := fun e xs => optB (capD e is) fun ys => bnd (frzDs ys) fun ys => fun s => (match C.orc.fn f xs (s ++ [.env is ys]) with
    | .ok (.bl b) s' => if noEnv (s'.take s.length) then .ok (.bl b) (s'.take s.length) else .no
    | _ => .no)) q).imp ?_
  rintro vs H1 ⟨FF, env, st, ds, W, μ, S, E, r, p⟩
  obtain ⟨ys, hys, p⟩ := optB_pt p
  obtain ⟨zs, rz, cz⟩ := cap_of E hys
  obtain ⟨ys', st', W', S', x', ry, p⟩ := frzs_pt S rz p
  have capv : ∀ {is : List Nat} {zs : List V}, CapR σ is zs → ∀ i ∈ is, ∃ v, σ[i]? = some (some v) := by
    intro is
    induction is with
    | nil => intro _ _ i hi; cases hi
    | cons j r ih =>
      intro zs h i hi
      cases zs with
      | nil => exact h.elim
      | cons z zs =>
        rcases List.mem_cons.mp hi with e | hi
        · subst e
          exact ⟨z, h.1⟩
        · exact ih h.2 i hi
  refine ⟨capv cz, fun cf hcf ndc hz => ?_⟩
  have hWn : ∀ p ∈ cf, W'.G p.1 = none := fun p hp => S'.gnone (hz p hp).1
  have leA : LeW W' (W'.add cf) := LeW.add ndc hWn
  have S2 := S'.adds ndc fun p hp => (hz p hp).1
  have hG : ∀ p ∈ cf, (W'.add cf).G p.1 = some (cellO p.1 p.2) := fun p hp => addC_in ndc p hp
  have S3 := S2.newE (a0 := X.env.locals) (mo := .env is ys') rfl (envR_of (σ := σ) hG (fun p hp => hp) (ry.mono leA) cz hcf)
  have xA : Ex2 W' μ (W'.add cf) (μ ++ [X.env.locals]) := ⟨leA, [X.env.locals], rfl⟩
  refine ⟨FF, _, _, _, ds, S3, (r.mono x').mono xA, ?_⟩
  cases er : C.orc.fn f ds (st' ++ [.env is ys']) with
  | no =>
    rw [er] at p
    exact p
  | exc y s2 =>
    rw [er] at p
    exact False.elim p
  | ok d s2 =>
    rw [er] at p
    cases d <;> first | exact False.elim p | skip
    rename_i b
    dsimp only at p
    split at p
    · rename_i hne'
      intro v H2 W2 μ2 SS xx rv
      obtain rfl : v = .bl b := rv
      have hG2 : ∀ p ∈ cf, W2.G p.1 = some (cellO p.1 p.2) := fun p hp => xx.w.g _ _ (hG p hp)
      refine ⟨fun p hp => SS.sub _ _ (hG2 p hp), ?_⟩
      have S5 := (SS.cut st'.length).cuts hG2 (fun p hp => (hz p hp).2) fun k is' xs' e => noEnv_get hne' e
      obtain ⟨xw, r2, e2⟩ := xx
      have em : μ2.take st'.length = μ := by
        rw [e2, ← S'.len]
        simp
      refine p (.bl b) _ (W2.cut cf) (μ2.take st'.length) S5 ⟨⟨fun a o h => ?_⟩, [], by rw [em]; simp⟩ rfl
      show delC W2.G cf a = some o
      rw [delC_ne (out_of h hWn)]
      refine xw.g a o ?_
      show addC W'.G cf a = some o
      rw [addC_ne (out_of h hWn)]
      exact h
    · exact False.elim p
end
end Ev
end
section
set_option Elab.async false
set_option linter.all false
set_option maxRecDepth 100000
set_option maxHeartbeats 4000003
namespace Ev
open PySem PySem.Spec PyProof.Rows L2
variable [Gh]
section
variable {C : Cx'} {k : Nat}
theorem pe_neg_ne : True := trivial
mutual
theorem sndE {m : MC} {X : Cx} {WE : WX} (c : CtxOk C m X WE k) (t : Ev.E) (a : Expr) (h : mtE m t a = true) : PE X a (RdE C X WE t) := by
  match t with
  | .c kc =>
    cases a with
    | Constant v kk pos => exact s_c c (by simpa only [mtE] using h)
    | _ => simp [mtE] at h
  | .v i =>
    cases a with
    | Name x pos => exact s_v c (by simpa only [mtE] using h)
    | _ => simp [mtE] at h
  | .g x =>
    cases a with
    | Name y pos => exact s_g c (by simpa only [mtE] using h)
    | _ => simp [mtE] at h
  | .tup es =>
    cases a with
    | Tuple xs kk pos =>
      simp only [mtE, Bool.and_eq_true] at h
      exact s_tup c h.1 h.2 (sndEs c es xs h.1)
    | _ => simp [mtE] at h
  | .lst mm es =>
    cases a with
    | List xs pos =>
      simp only [mtE, Bool.and_eq_true] at h
      exact s_lst c h.1 h.2 (sndEs c es xs h.1)
    | _ => simp [mtE] at h
  | .dct mm ks es =>
    cases a with
    | Dict kx vx pos =>
      simp only [mtE, Bool.and_eq_true] at h
      obtain ⟨⟨⟨h1, h2⟩, h3⟩, h4⟩ := h
      have h3 := of_decide_eq_true h3
      have h4 := of_decide_eq_true h4
      cases kx with
      | nil =>
        cases vx with
        | cons _ _ => simp at h3
        | nil =>
          have ek : ks = [] := by cases ks <;> first | rfl | (simp [keysB] at h1)
          have ee : es = .nil := by cases es <;> first | rfl | (simp [mtEs] at h2)
          rw [ek, ee]
          exact s_dct0 c
      | cons k1 kx => exact s_dct c h1 h2 h3 h4 (by simp) (sndPs c ks es (k1 :: kx) vx h1 h2 h3 pos)
    | _ => simp [mtE] at h
  | .bin op x y =>
    cases a with
    | BinOp p o q pos =>
      simp only [mtE, Bool.and_eq_true, decide_eq_true_eq] at h
      obtain ⟨⟨rfl, h1⟩, h2⟩ := h
      exact s_bin c (sndE c x p h1) (sndE c y q h2)
    | _ => simp [mtE] at h
  | .neg x =>
    cases a with
    | UnaryOp o p pos =>
      cases o <;> simp only [mtE] at h <;> first | exact s_neg c (sndE c x p h) | cases h
    | _ => simp [mtE] at h
  | .cmp op x y =>
    cases a with
    | Compare p os qs pos =>
      cases os with
      | nil => simp [mtE] at h
      | cons o os =>
        cases os with
        | cons _ _ => simp [mtE] at h
        | nil =>
          cases qs with
          | nil => simp [mtE] at h
          | cons q qs =>
            cases qs with
            | cons _ _ => simp [mtE] at h
            | nil =>
              simp only [mtE, Bool.and_eq_true, decide_eq_true_eq] at h
              obtain ⟨⟨⟨rfl, h1⟩, h2⟩, h3⟩ := h
              exact s_cmp c h3 (sndE c x p h1) (sndE c y q h2)
    | _ => simp [mtE] at h
  | .chain op op' x y z =>
    cases a with
    | Compare p os qs pos =>
      match os, qs, h with
      | [o, o'], [q, r], h =>
        simp only [mtE, Bool.and_eq_true, decide_eq_true_eq] at h
        obtain ⟨⟨⟨⟨⟨rfl, rfl⟩, h1⟩, h2⟩, h3⟩, h4⟩ := h
        exact s_chain c h4 (sndE c x p h1) (sndE c y q h2) (sndE c z r h3)
      | [], _, h => simp [mtE] at h
      | [_], _, h => simp [mtE] at h
      | _ :: _ :: _ :: _, _, h => simp [mtE] at h
      | [_, _], [], h => simp [mtE] at h
      | [_, _], [_], h => simp [mtE] at h
      | [_, _], _ :: _ :: _ :: _, h => simp [mtE] at h
    | _ => simp [mtE] at h
  | .andv x y =>
    cases a with
    | BoolOp o es pos =>
      cases o with
      | Or => simp [mtE] at h
      | And =>
        match es, h with
        | p :: q :: r, h =>
          simp only [mtE, Bool.and_eq_true] at h
          refine s_and c (sndE c x p h.1) ⟨fun e => ?_, fun e => ?_⟩
          · subst e
            exact sndE c y q h.2
          · have h2 := h.2
            cases r with
            | nil => exact absurd rfl e
            | cons r1 rs => exact sndE c y _ h2
        | [], h => simp [mtE] at h
        | [_], h => simp [mtE] at h
    | _ => simp [mtE] at h
  | .orv x y =>
    cases a with
    | BoolOp o es pos =>
      cases o with
      | And => simp [mtE] at h
      | Or =>
        match es, h with
        | p :: q :: r, h =>
          simp only [mtE, Bool.and_eq_true] at h
          refine s_or c (sndE c x p h.1) ⟨fun e => ?_, fun e => ?_⟩
          · subst e
            exact sndE c y q h.2
          · have h2 := h.2
            cases r with
            | nil => exact absurd rfl e
            | cons r1 rs => exact sndE c y _ h2
        | [], h => simp [mtE] at h
        | [_], h => simp [mtE] at h
    | _ => simp [mtE] at h
  | .notv x =>
    cases a with
    | UnaryOp o p pos =>
      cases o <;> simp only [mtE] at h <;> first | exact s_notv c (sndE c x p h) | cases h
    | _ => simp [mtE] at h
  | .ife t x y =>
    cases a with
    | IfExp q p1 p2 pos =>
      simp only [mtE, Bool.and_eq_true] at h
      exact s_ife c (sndT c t q h.1.1) (sndE c x p1 h.1.2) (sndE c y p2 h.2)
    | _ => simp [mtE] at h
  | .ix x y =>
    cases a with
    | Subscript p q pos =>
      simp only [mtE, Bool.and_eq_true] at h
      exact s_ix c h.2 (sndE c x p h.1.1) (sndE c y q h.1.2)
    | _ => simp [mtE] at h
  | .sl mm x lo hi =>
    cases a with
    | Subscript p q pos =>
      cases q with
      | Slice l u st p2 =>
        cases st with
        | some _ => simp [mtE] at h
        | none =>
          simp only [mtE, Bool.and_eq_true] at h
          exact s_sl c (sndE c x p h.1.1) (sndO c lo l h.1.2) (sndO c hi u h.2)
      | _ => simp [mtE] at h
    | _ => simp [mtE] at h
  | .fld x f =>
    cases a with
    | Attribute p g pos =>
      simp only [mtE, Bool.and_eq_true, decide_eq_true_eq] at h
      obtain ⟨⟨h1, rfl⟩, h2⟩ := h
      exact s_fld c h2 (sndE c x p h1)
    | _ => simp [mtE] at h
  | .call f es =>
    cases a with
    | Call fn xs kws pos =>
      cases fn with
      | Name x p =>
        cases kws with
        | cons _ _ => simp [mtE] at h
        | nil =>
          simp only [mtE, Bool.and_eq_true] at h
          obtain ⟨e, _⟩ := c.gl h.1.1
          subst e
          exact s_call c h.1.2 h.1.1 h.2 (sndEs c es xs h.2)
      | _ => simp [mtE] at h
    | _ => simp [mtE] at h
  | .mk f es =>
    cases a with
    | Call fn xs kws pos =>
      cases fn with
      | Name x p =>
        cases kws with
        | cons _ _ => simp [mtE] at h
        | nil =>
          simp only [mtE, Bool.and_eq_true] at h
          obtain ⟨e, _⟩ := c.gl h.1.1
          subst e
          exact s_call c h.1.2 h.1.1 h.2 (sndEs c es xs h.2)
      | _ => simp [mtE] at h
    | _ => simp [mtE] at h
  | .bi b es =>
    cases a with
    | Call fn xs kws pos =>
      cases fn with
      | Name x p =>
        cases kws with
        | cons _ _ => simp [mtE] at h
        | nil =>
          simp only [mtE, Bool.and_eq_true, Bool.or_eq_true, Bool.not_eq_true', decide_eq_false_iff_not] at h
          obtain ⟨⟨⟨h1, h2⟩, h3⟩, h4⟩ := h
          obtain ⟨e, _⟩ := c.gl h1
          subst e
          exact s_bi c h1 h2 h3 (fun e => h4.elim (fun z => absurd e z) id) (sndEs c es xs h2)
      | _ => simp [mtE] at h
    | _ => simp [mtE] at h
  | .mkb b mm es =>
    cases a with
    | Call fn xs kws pos =>
      cases fn with
      | Name x p =>
        cases kws with
        | cons _ _ => simp [mtE] at h
        | nil =>
          simp only [mtE, Bool.and_eq_true, Bool.not_eq_true'] at h
          obtain ⟨⟨h1, h2⟩, h3⟩ := h
          obtain ⟨e, _⟩ := c.gl h1
          subst e
          exact s_mkb c h1 h2 h3 (sndEs c es xs h2)
      | _ => simp [mtE] at h
    | _ => simp [mtE] at h
  | .met x f es =>
    cases a with
    | Call fn xs kws pos =>
      cases fn with
      | Attribute p g ap =>
        cases kws with
        | cons _ _ => simp [mtE] at h
        | nil =>
          simp only [mtE, Bool.and_eq_true, decide_eq_true_eq, beq_iff_eq] at h
          obtain ⟨⟨⟨⟨⟨⟨h1, rfl⟩, h2⟩, h3⟩, h4⟩, h5⟩, h6⟩ := h
          by_cases hf : f = .bits
          · subst hf
            have e : xs = [] := by
              cases xs with
              | nil => rfl
              | cons _ _ => simp at h6
            subst e
            have ee : es = .nil := by cases es <;> first | rfl | (simp [mtEs] at h2)
            rw [ee]
            exact s_bits c (by simpa using h3) h4 (sndE c x p h1)
          · refine s_meth c (by simpa using h3) h4 h2 h5 ?_ hf (sndE c x p h1) (sndEs c es xs h2)
            intro e
            subst e
            simp [hf] at h6
      | _ => simp [mtE] at h
    | _ => simp [mtE] at h
  | .cal i es =>
    cases a with
    | Call fn xs kws pos =>
      cases fn with
      | Name x p =>
        cases kws with
        | cons _ _ => simp [mtE] at h
        | nil =>
          simp only [mtE, Bool.and_eq_true] at h
          exact s_cal c h.1 h.2 (sndEs c es xs h.2)
      | _ => simp [mtE] at h
    | _ => simp [mtE] at h
  | .isi x ts =>
    cases a with
    | Call fn xs kws pos =>
      cases fn with
      | Name y p =>
        match xs, kws, h with
        | [q1, q2], [], h =>
          simp only [mtE, Bool.and_eq_true] at h
          obtain ⟨⟨⟨⟨h1, h2⟩, h3⟩, h4⟩, h5⟩ := h
          obtain ⟨e, _⟩ := c.gl h1
          subst e
          cases q2 <;> first
            | (simp only [Bool.and_eq_true, Bool.not_eq_true', decide_eq_true_eq] at h5
               exact s_isiT c h1 h3 h5.1.1 (by intro e; subst e; simp at h5) h5.2 (sndE c x q1 h2))
            | (match ts, h5 with
               | [t], h5 => exact s_isi c h1 h3 h4 h5 (sndE c x q1 h2)
               | [], h5 => simp at h5
               | _ :: _ :: _, h5 => simp at h5)
        | [], _, h => simp [mtE] at h
        | [_], _, h => simp [mtE] at h
        | _ :: _ :: _ :: _, _, h => simp [mtE] at h
        | [_, _], _ :: _, h => simp [mtE] at h
      | _ => simp [mtE] at h
    | _ => simp [mtE] at h
  | .comp mm own tg it cs elt =>
    cases a with
    | ListComp x gs scope pos =>
      match gs, h with
      | [⟨t, i, fs, z⟩], h =>
        simp only [mtE, Bool.and_eq_true, decide_eq_true_eq] at h
        obtain ⟨⟨⟨⟨⟨⟨rfl, h1⟩, h2⟩, h3⟩, h4⟩, h5⟩, h6⟩ := h
        exact s_comp c h1 h3 (sndIt c it i t h2) (fun s H D cl fp => sndTg (c.blk s H scope D cl fp) _ tg t h4) (fun s H D cl fp => sndTs (c.blk s H scope D cl fp) cs fs h5) (fun s H D cl fp => sndE (c.blk s H scope D cl fp) elt x h6)
      | [], h => simp [mtE] at h
      | _ :: _ :: _, h => simp [mtE] at h
    | _ => simp [mtE] at h
  | .callC f es is =>
    cases a with
    | Call fn xs kws pos =>
      cases fn with
      | Name x p =>
        cases kws with
        | cons _ _ => simp [mtE] at h
        | nil =>
          simp only [mtE, Bool.and_eq_true, decide_eq_true_eq, Bool.not_eq_true'] at h
          obtain ⟨⟨⟨⟨⟨⟨h1, h2⟩, h3⟩, h4⟩, h5⟩, h6⟩, h7⟩ := h
          obtain ⟨e, _⟩ := c.gl h2
          subst e
          exact s_callC c h1 h5 h6 h3 h2 h4 (by intro e; subst e; cases h7) (sndEs c es xs h4)
      | _ => simp [mtE] at h
    | _ => simp [mtE] at h
  | .xf _ => simp [mtE] at h
theorem sndEs {m : MC} {X : Cx} {WE : WX} (c : CtxOk C m X WE k) (t : Es) (a : List Expr) (h : mtEs m t a = true) : PA X a (RdA C X WE t) := by
  match t with
  | .nil =>
    cases a with
    | nil => exact pa_nil.imp fun σ H Q q => rd_nil q
    | cons _ _ => simp [mtEs] at h
  | .cons e r =>
    cases a with
    | nil => simp [mtEs] at h
    | cons x xs =>
      simp only [mtEs, Bool.and_eq_true] at h
      exact (pa_cons (sndE c e x h.1.1) (sndEs c r xs h.2) (nst_each h.1.2 _ _)).imp fun σ H Q q => rd_cons q
theorem sndO {m : MC} {X : Cx} {WE : WX} (c : CtxOk C m X WE k) (t : Es) (a : Option Expr) (h : mtO m t a = true) : (a = none ∧ t = .nil) ∨ ∃ x e, a = some x ∧ t = .cons e .nil ∧ PE X x (RdE C X WE e) := by
  match t with
  | .nil =>
    cases a with
    | none => exact .inl ⟨rfl, rfl⟩
    | some _ => simp [mtO] at h
  | .cons e r =>
    cases a with
    | none => simp [mtO] at h
    | some x =>
      simp only [mtO, Bool.and_eq_true] at h
      have er : r = .nil := by cases r <;> first | rfl | (simp [mtO] at h)
      exact .inr ⟨x, e, rfl, by rw [er], sndE c e x h.1⟩
theorem sndPs {m : MC} {X : Cx} {WE : WX} (c : CtxOk C m X WE k) (ks : List Ky) (t : Es) (kx : List (Option Expr)) (vx : List Expr) (hk : keysB ks kx = true) (h : mtEs m t vx = true) (hl : kx.length = vx.length) (pos : Pos) : PPs X pos kx vx (trsOf X.K X.mg WE C ks t) := by
  match t with
  | .nil =>
    cases vx with
    | cons _ _ => simp [mtEs] at h
    | nil =>
      cases kx with
      | cons _ _ => simp at hl
      | nil =>
        have ek : ks = [] := by cases ks <;> first | rfl | (simp [keysB] at hk)
        rw [ek]
        exact pps_nil
  | .cons e r =>
    cases vx with
    | nil => simp [mtEs] at h
    | cons v vx =>
      cases kx with
      | nil => simp at hl
      | cons o kx =>
        cases ks with
        | nil => simp [keysB] at hk
        | cons k1 ks =>
          simp only [mtEs, Bool.and_eq_true] at h
          simp only [keysB, Bool.and_eq_true] at hk
          obtain ⟨e1, rfl, pk⟩ := key_pe (X := X) hk.1
          exact pps_cons pk (sndE c e v h.1.1) (sndPs c ks r kx vx hk.2 h.2 (by simpa using hl) pos)
theorem sndT {m : MC} {X : Cx} {WE : WX} (c : CtxOk C m X WE k) (t : T) (a : Expr) (h : mtT m t a = true) : PT X a (RdT C X WE t) := by
  match t with
  | .val e =>
    simp only [mtT, Bool.and_eq_true] at h
    exact t_val c h.1 (sndE c e a h.2)
  | .cmp op x y =>
    cases a with
    | Compare p os qs pos =>
      match os, qs, h with
      | [o], [q], h =>
        simp only [mtT, Bool.and_eq_true, decide_eq_true_eq] at h
        obtain ⟨⟨⟨rfl, h1⟩, h2⟩, h3⟩ := h
        exact t_cmp c h3 (sndE c x p h1) (sndE c y q h2)
      | [], _, h => simp [mtT] at h
      | [_], [], h => simp [mtT] at h
      | [_], _ :: _ :: _, h => simp [mtT] at h
      | _ :: _ :: _, _, h => simp [mtT] at h
    | _ => simp [mtT] at h
  | .chain op op' x y z =>
    cases a with
    | Compare p os qs pos =>
      match os, qs, h with
      | [o, o'], [q, r], h =>
        simp only [mtT, Bool.and_eq_true, decide_eq_true_eq] at h
        obtain ⟨⟨⟨⟨⟨rfl, rfl⟩, h1⟩, h2⟩, h3⟩, h4⟩ := h
        exact t_chain c h4 (sndE c x p h1) (sndE c y q h2) (sndE c z r h3)
      | [], _, h => simp [mtT] at h
      | [_], _, h => simp [mtT] at h
      | _ :: _ :: _ :: _, _, h => simp [mtT] at h
      | [_, _], [], h => simp [mtT] at h
      | [_, _], [_], h => simp [mtT] at h
      | [_, _], _ :: _ :: _ :: _, h => simp [mtT] at h
    | _ => simp [mtT] at h
  | .and x y =>
    cases a with
    | BoolOp o es pos =>
      cases o with
      | Or => simp [mtT] at h
      | And =>
        match es, h with
        | p :: q :: r, h =>
          simp only [mtT, Bool.and_eq_true] at h
          refine t_and c (sndT c x p h.1) ⟨fun e => ?_, fun e => ?_⟩
          · subst e
            exact sndT c y q h.2
          · have h2 := h.2
            cases r with
            | nil => exact absurd rfl e
            | cons r1 rs => exact sndT c y _ h2
        | [], h => simp [mtT] at h
        | [_], h => simp [mtT] at h
    | _ => simp [mtT] at h
  | .or x y =>
    cases a with
    | BoolOp o es pos =>
      cases o with
      | And => simp [mtT] at h
      | Or =>
        match es, h with
        | p :: q :: r, h =>
          simp only [mtT, Bool.and_eq_true] at h
          refine t_or c (sndT c x p h.1) ⟨fun e => ?_, fun e => ?_⟩
          · subst e
            exact sndT c y q h.2
          · have h2 := h.2
            cases r with
            | nil => exact absurd rfl e
            | cons r1 rs => exact sndT c y _ h2
        | [], h => simp [mtT] at h
        | [_], h => simp [mtT] at h
    | _ => simp [mtT] at h
  | .not x =>
    cases a with
    | UnaryOp o p pos =>
      cases o <;> simp only [mtT] at h <;> first | exact t_not c (sndT c x p h) | cases h
    | _ => simp [mtT] at h
theorem sndTs {m : MC} {X : Cx} {WE : WX} (c : CtxOk C m X WE k) (t : Ts) (a : List Expr) (h : mtTs m t a = true) : PTs X a (rd X.K X.mg WE relB (evTs C t)) := by
  match t with
  | .nil =>
    cases a with
    | nil => exact pts_nil.imp fun σ H Q q => rd_retB (b := true) q
    | cons _ _ => simp [mtTs] at h
  | .cons t r =>
    cases a with
    | nil => simp [mtTs] at h
    | cons x xs =>
      cases xs with
      | cons _ _ => simp [mtTs] at h
      | nil =>
        simp only [mtTs, Bool.and_eq_true] at h
        have er : r = .nil := by cases r <;> first | rfl | (simp [mtTs] at h)
        subst er
        refine (pts_one (sndT c t x h.1)).imp ?_
        intro σ H Q q
        exact rd.imp (rd_if (f := fun _ => ret true) (g := fun _ => ret false) q) fun b H1 q1 => by
          cases b with
          | true => exact rd_retB q1
          | false => exact rd_retB q1
theorem sndIt {m : MC} {X : Cx} {WE : WX} (c : CtxOk C m X WE k) (t : Ev.It) (a tg : Expr) (h : mtIt m t a tg = true) : PI X tg a (rd X.K X.mg WE (relI X.K X.mg) (evIt C t)) := by
  match t with
  | .seq e => exact i_seq c (sndE c e a (by simpa only [mtIt] using h))
  | .rng es =>
    cases a with
    | Call fn xs kws pos =>
      cases fn with
      | Name x p =>
        cases kws with
        | cons _ _ => simp [mtIt] at h
        | nil =>
          simp only [mtIt, Bool.and_eq_true, decide_eq_true_eq] at h
          obtain ⟨⟨h1, h2⟩, h3⟩ := h
          obtain ⟨e, _⟩ := c.gl h1
          subst e
          exact i_rng c h1 h2 h3 (sndEs c es xs h2)
      | _ => simp [mtIt] at h
    | _ => simp [mtIt] at h
  | .enum e =>
    cases a with
    | Call fn xs kws pos =>
      cases fn with
      | Name x p =>
        match xs, kws, h with
        | [y], [], h =>
          simp only [mtIt, Bool.and_eq_true] at h
          obtain ⟨⟨⟨h1, h2⟩, h3⟩, h4⟩ := h
          obtain ⟨e', _⟩ := c.gl h1
          subst e'
          cases tg <;> first | exact i_enum c h1 h3 (sndE c e y h2) | cases h4
        | [], _, h => simp [mtIt] at h
        | _ :: _ :: _, _, h => simp [mtIt] at h
        | [_], _ :: _, h => simp [mtIt] at h
      | _ => simp [mtIt] at h
    | _ => simp [mtIt] at h
  | .zip es =>
    cases a with
    | Call fn xs kws pos =>
      cases fn with
      | Name x p =>
        cases kws with
        | cons _ _ => simp [mtIt] at h
        | nil =>
          simp only [mtIt, Bool.and_eq_true, decide_eq_true_eq] at h
          obtain ⟨⟨⟨h1, h2⟩, h3⟩, h4⟩ := h
          obtain ⟨e', _⟩ := c.gl h1
          subst e'
          cases tg <;> first | exact i_zip c h1 h2 h3 (sndEs c es xs h2) | cases h4
      | _ => simp [mtIt] at h
    | _ => simp [mtIt] at h
end
end
end Ev
end
section
set_option Elab.async false
set_option linter.all false
set_option maxRecDepth 100000
set_option maxHeartbeats 4000003
namespace Ev
open PySem PySem.Spec PyProof.Rows L2
variable [Gh]
/-- what is told of the frame's own objects -/
abbrev FO := List (Addr × HO) → Vw → Prop
section
variable (K : PySem.W.Frag) (mg : Str → Option Value) (WE : WX) (fo : FO)
/-- a statement's answer -/
def PtF (W : Vw) (μ : List Addr) (r : R Fl) (D : Ends) : Prop := match r with
  | .ok f st' => ∀ FF' σ' H' W' μ', fo FF' W' → SA K mg FF' H' W' μ' st' → Ex2 W μ W' μ' → (match f with
    | .nx e' => RE K mg W' μ' σ' e' → D.nx σ' H'
    | .bk e' => RE K mg W' μ' σ' e' → D.bk σ' H'
    | .ct e' => RE K mg W' μ' σ' e' → D.ct σ' H'
    | .rt d => ∀ v, Rpa K mg W' μ' d v → D.rt v H')
  | .exc x st' => ∀ FF' σ' H' W' μ' cls dd, fo FF' W' → SA K mg FF' H' W' μ' st' → Ex2 W μ W' μ' → ExR K mg W' x cls dd → WE cls dd σ' H'
  | .no => False
def rdS (ev : En → M Fl) : TS := fun D σ H => ∃ FF env st W μ, fo FF W ∧ SA K mg FF H W μ st ∧ RE K mg W μ σ env ∧ PtF K mg WE fo W μ (ev env st) D
end
section
variable {K : PySem.W.Frag} {mg : Str → Option Value} {WE : WX} {fo : FO} {α β γ δ : Type} {rel : Rl α β} {rel2 : Rl γ δ} {FF : List (Addr × HO)} {σ : L2.St} {W W1 : Vw} {μ μ1 : List Addr} {H : Hp} {st : Sto} {env : En} {D : Ends}
theorem PtF.mono {r : R Fl} (x : Ex2 W μ W1 μ1) (h : PtF K mg WE fo W μ r D) : PtF K mg WE fo W1 μ1 r D := by
  cases r with
  | ok f st' => exact fun FF' σ' H' W' μ' f s e => h FF' σ' H' W' μ' f s (x.trans e)
  | exc y st' => exact fun FF' σ' H' W' μ' cls dd f s e => h FF' σ' H' W' μ' cls dd f s (x.trans e)
  | no => exact h
theorem ptF_bnd {mm : M α} {f : α → M Fl} (fm : ∀ FF W W', LeW W W' → fo FF W → fo FF W') (hf : fo FF W) (h : PtF K mg WE fo W μ (bnd mm f st) D) :
    Pt K mg WE rel FF σ W μ (mm st) (fun b H1 => ∃ a st' W' μ', fo FF W' ∧ SA K mg FF H1 W' μ' st' ∧ Ex2 W μ W' μ' ∧ rel W' μ' a b ∧ PtF K mg WE fo W' μ' (f a st') D) := by
  unfold bnd at h
  cases e : mm st with
  | ok a st1 =>
    rw [e] at h
    exact fun b H1 W1 μ1 S1 x r => ⟨a, st1, W1, μ1, fm _ _ _ x.w hf, S1, x, r, PtF.mono x h⟩
  | exc y st1 =>
    rw [e] at h
    exact fun H' W' μ' cls dd S' x r => h FF σ H' W' μ' cls dd (fm _ _ _ x.w hf) S' x r
  | no =>
    rw [e] at h
    exact h
theorem rdS_bnd {m : En → M α} {f : En → α → M Fl} (fm : ∀ FF W W', LeW W W' → fo FF W → fo FF W') (h : rdS K mg WE fo (fun e => bnd (m e) (f e)) D σ H) :
    rd K mg WE rel m σ H (fun b H1 => ∃ FF env st a W μ, fo FF W ∧ SA K mg FF H1 W μ st ∧ RE K mg W μ σ env ∧ rel W μ a b ∧ PtF K mg WE fo W μ (f env a st) D) := by
  obtain ⟨FF, env, st, W, μ, F, S, E, p⟩ := h
  refine ⟨FF, env, st, W, μ, S, E, (ptF_bnd (rel := rel) fm F p).imp ?_⟩
  rintro b H1 ⟨a, st', W', μ', F', S', x, r, p⟩
  exact ⟨FF, env, st', a, W', μ', F', S', E.mono x, r, p⟩
theorem ptF_nx {e' : En} (F : fo FF W) (S : SA K mg FF H W μ st) (E : RE K mg W μ σ e') (p : PtF K mg WE fo W μ (ret (.nx e') st) D) : D.nx σ H := p FF σ H W μ F S (Ex2.refl _ _) E
theorem ptF_frz {d : Ev.D} {v : V} {f : Ev.D → M Fl} (fm : ∀ FF W W', LeW W W' → fo FF W → fo FF W') (F : fo FF W) (S : SA K mg FF H W μ st) (r : Rpa K mg W μ d v) (h : PtF K mg WE fo W μ (bnd (frzD d) f st) D) :
    ∃ d' st' W', fo FF W' ∧ SA K mg FF H W' μ st' ∧ Ex2 W μ W' μ ∧ Rp K mg W' d' v ∧ PtF K mg WE fo W' μ (f d' st') D := by
  unfold bnd at h
  cases e : frzD d st with
  | ok d' st' =>
    rw [e] at h
    obtain ⟨W', S', x, rr⟩ := frz_ok S r e
    exact ⟨d', st', W', fm _ _ _ x.w F, S', x, rr, PtF.mono x h⟩
  | exc y st' =>
    rw [e] at h
    cases d <;> simp only [frzD] at e <;> first | cases e | (split at e <;> cases e)
  | no =>
    rw [e] at h
    exact False.elim h
theorem ptF_frzs {ds : List Ev.D} {vs : List V} {f : List Ev.D → M Fl} (fm : ∀ FF W W', LeW W W' → fo FF W → fo FF W') (F : fo FF W) (S : SA K mg FF H W μ st) (r : Rpas K mg W μ ds vs) (h : PtF K mg WE fo W μ (bnd (frzDs ds) f st) D) :
    ∃ ds' st' W', fo FF W' ∧ SA K mg FF H W' μ st' ∧ Ex2 W μ W' μ ∧ Rps K mg W' ds' vs ∧ PtF K mg WE fo W' μ (f ds' st') D := by
  unfold bnd at h
  cases e : frzDs ds st with
  | ok d' st' =>
    rw [e] at h
    obtain ⟨W', S', x, rr⟩ := frzs_ok S r e
    exact ⟨d', st', W', fm _ _ _ x.w F, S', x, rr, PtF.mono x h⟩
  | exc y st' => exact (frzs_ex e).elim
  | no =>
    rw [e] at h
    exact False.elim h
/-- the ends led over -/
theorem PtF.imp {r : R Fl} {D' : Ends} (h : PtF K mg WE fo W μ r D) (q1 : ∀ σ H, D.nx σ H → D'.nx σ H) (q2 : ∀ v H, D.rt v H → D'.rt v H) (q3 : ∀ σ H, D.bk σ H → D'.bk σ H) (q4 : ∀ σ H, D.ct σ H → D'.ct σ H) : PtF K mg WE fo W μ r D' := by
  cases r with
  | ok f st' =>
    intro FF' σ' H' W' μ' F s x
    have p' := h FF' σ' H' W' μ' F s x
    cases f with
    | nx e' => exact fun z => q1 _ _ (p' z)
    | bk e' => exact fun z => q3 _ _ (p' z)
    | ct e' => exact fun z => q4 _ _ (p' z)
    | rt d => exact fun v z => q2 _ _ (p' v z)
  | exc y st' => exact h
  | no => exact h
/-- a run of statements goes on behind -/
theorem PtF.seq {mm : M Fl} {f : En → M Fl} (h : PtF K mg WE fo W μ (bnd mm (fun r => match r with
    | .nx e' => f e'
    | r => ret r) st) D) : PtF K mg WE fo W μ (mm st) { D with nx := rdS K mg WE fo f D } := by
  unfold bnd at h
  cases e : mm st with
  | ok r st1 =>
    rw [e] at h
    intro FF' σ' H' W' μ' F s x
    cases r with
    | nx e' => exact fun z => ⟨FF', e', st1, W', μ', F, s, z, PtF.mono x h⟩
    | bk e' => exact fun z => h FF' σ' H' W' μ' F s x z
    | ct e' => exact fun z => h FF' σ' H' W' μ' F s x z
    | rt d => exact fun v z => h FF' σ' H' W' μ' F s x v z
  | exc y st1 =>
    rw [e] at h
    exact h
  | no =>
    rw [e] at h
    exact h
end
/-- what a statement wants besides -/
structure StmOk (m : MC) (X : Cx) (fo : FO) : Prop where
  kind : X.env.scope.kind = .function
  own : PassesOwn (model X.prog X.w) X.A X.env X.xe
  ts : m.ts = m.sc
  fm : ∀ FF W W', LeW W W' → fo FF W → fo FF W'
  stk : X.stack = X.env :: X.outer
  fr : X.env.frame = some X.env.locals
section
variable {C : Cx'} {m : MC} {X : Cx} {WE : WX} {k : Nat} {fo : FO}
abbrev RdS (C : Cx') (X : Cx) (WE : WX) (fo : FO) (c : S) : TS := rdS X.K X.mg WE fo (evS C c)
abbrev RdSs (C : Cx') (X : Cx) (WE : WX) (fo : FO) (c : Ss) : TS := rdS X.K X.mg WE fo (evSs C c)
theorem blockKind_fn (q : StmOk m X fo) : X.env.blockKind = .function := by
  unfold Env.blockKind
  rw [q.kind]
  rfl
theorem kindOf_sc (c : CtxOk C m X WE k) (x : Str) : X.env.kindOf x = m.sc.names.lookup x := by
  unfold Env.kindOf
  rw [c.hsc]
def nsd : Expr → Bool
  | .SetComp .. => false
  | .DictComp .. => false
  | _ => true
theorem sw_eq (c : CtxOk C m X WE k) (q : StmOk m X fo) {e g : Expr} {l : Nat} (h : nlc e = true ∨ swB m.sc e g = false) (he : nsd e = true) : swapsWith e (some g) l X.env = pure false := by
  rcases h with h | h
  · exact nlc_swap h _ _ _
  · cases e <;> first | rfl | cases he | skip
    rename_i elt gs scope pos
    cases g <;> first | rfl | skip
    rename_i t p
    unfold swapsWith
    simp only [swB] at h
    simp only [blockKind_fn q, kindOf_sc c, Expr.pos]
    show pure _ = pure false
    congr 1
    rw [show (m.sc.names.lookup t == some NameKind.local) = decide (m.sc.names.lookup t = some .local) from by
      generalize List.lookup t m.sc.names = o
      cases o with
      | none => rfl
      | some kd => cases kd <;> rfl]
    simpa using h
theorem mtE_nsd {e : Ev.E} {x : Expr} (h : mtE m e x = true) : nsd x = true := by
  cases x <;> first | rfl | (cases e <;> simp [mtE] at h)
/-- a plain assignment's target -/
def gA (C : Cx') (m : MC) (X : Cx) (WE : WX) (t : Tg) : TG := match t with
  | .name i => gName i
  | .tup ts => gP X.K X.mg (List.range m.N.length) (.tup ts)
  | .ix a b => gSub (RdE C X WE a) (RdE C X WE b) (rSet X.K X.mg WE)
theorem pg_asg (c : CtxOk C m X WE k) {t : Tg} {g : Expr} (h : mtA m t g = true) : PG X g (gA C m X WE t) := by
  cases t with
  | name i =>
    cases g <;> first | (simp [mtA, mtTg] at h; done) | skip
    simp only [mtA, mtTg, Bool.and_eq_true] at h
    obtain ⟨h1, h2, h3⟩ := c.tgt h.1
    exact pg_name (c.hN ▸ c.nd) h1 h2 h3
  | tup ts => exact sndTg c _ (.tup ts) g (by simpa only [mtA] using h)
  | ix a b =>
    cases g <;> first | (simp [mtA] at h; done) | skip
    rename_i p q pos
    simp only [mtA, Bool.and_eq_true] at h
    have hq := h.2
    exact pg_sub (sndE c a p h.1.1) (sndE c b q h.1.2) (set_ok (by have := c.hu; omega)) (fun v => by cases q <;> first | rfl | cases hq)
theorem gA_of (q : StmOk m X fo) {t : Tg} {d : Ev.D} {v : V} {FF : List (Addr × HO)} {σ : L2.St} {H : Hp} {W : Vw} {μ : List Addr} {st : Sto} {env : En} {D : Ends} (F : fo FF W) (S : SA X.K X.mg FF H W μ st) (E : RE X.K X.mg W μ σ env) (r : Rpa X.K X.mg W μ d v)
    (p : PtF X.K X.mg WE fo W μ (bnd (asgA t (evE C) d env) (fun e' => ret (.nx e')) st) D) : gA C m X WE t v σ H D.nx := by
  cases t with
  | name i => exact ptF_nx F S (E.set r) p
  | tup ts =>
    simp only [asgA] at p
    rw [bnd_bnd] at p
    obtain ⟨d', st', W', F', S', x, rr, p⟩ := ptF_frz q.fm F S r p
    cases e : asgP (.tup ts) d' env with
    | none => rw [e] at p; exact False.elim p
    | some e' =>
      rw [e] at p
      exact ⟨FF, env, st', W', μ, d', e', S', E.mono x, rr, e, fun σ' E' _ _ => ptF_nx F' S' E' p⟩
  | ix a b =>
    simp only [asgA] at p
    rw [bnd_bnd] at p
    refine ⟨FF, env, st, W, μ, S, E, (ptF_bnd (rel := relA X.K X.mg) q.fm F p).imp ?_⟩
    rintro o H1 ⟨od, st1, W1, μ1, F1, S1, x1, r1, p⟩
    rw [bnd_bnd] at p
    refine ⟨FF, env, st1, W1, μ1, S1, E.mono x1, (ptF_bnd (rel := relA X.K X.mg) q.fm F1 p).imp ?_⟩
    rintro i H2 ⟨id', st2, W2, μ2, F2, S2, x2, r2, p⟩
    rw [bnd_bnd] at p
    refine ⟨FF, σ, st2, W2, μ2, od, id', d, S2, r1.mono x2, r2, (r.mono x1).mono x2, (ptF_bnd (rel := relU) q.fm F2 p).imp ?_⟩
    rintro u H3 ⟨_, st3, W3, μ3, F3, S3, x3, _, p⟩
    exact ptF_nx F3 S3 (((E.mono x1).mono x2).mono x3) p
theorem fm_short (c : CtxOk C m X WE k) {l : Nat} : ∀ {gs : List Expr}, allLoc m gs = false → (gs.filterMap fun
    | .Name id pos => if X.env.kindOf id == some .local && pos.line == l then some id else none
    | _ => none).length < gs.length
  | [], h => by simp [allLoc] at h
  | g :: gs, h => by
    have le : ∀ (f : Expr → Option Str) (gs : List Expr), (gs.filterMap f).length ≤ gs.length := fun f gs => List.length_filterMap_le f gs
    rw [List.filterMap_cons]
    cases g <;> first | (simp only []; exact Nat.lt_succ_of_le (le _ _)) | skip
    rename_i x p
    simp only [allLoc, Bool.and_eq_false_iff, decide_eq_false_iff_not] at h
    dsimp only
    by_cases hx : m.sc.names.lookup x = some .local
    · have h2 := fm_short c (l := l) (h.resolve_left fun z => z hx)
      split
      · exact Nat.lt_succ_of_lt h2
      · rw [List.length_cons, List.length_cons]
        exact Nat.succ_lt_succ h2
    · have e : (X.env.kindOf x == some .local && p.line == l) = false := by
        rw [kindOf_sc c]
        have : (m.sc.names.lookup x == some NameKind.local) = false := by
          revert hx
          generalize m.sc.names.lookup x = o
          intro hx
          cases o with
          | none => rfl
          | some kd => cases kd <;> first | rfl | exact absurd rfl hx
        rw [this]
        rfl
      rw [e]
      exact Nat.lt_succ_of_le (le _ _)
theorem sws_none (c : CtxOk C m X WE k) {gs vs : List Expr} {k1 k2 : Nat} {p1 p2 : Pos} (h : allLoc m gs = false) : swappedStores [.Tuple gs k1 p1] (.Tuple vs k2 p2) X.env = pure none := by
  unfold swappedStores
  have hs := fm_short c (l := (gs.head?.map (·.pos.line)).getD 0) h
  simp only []
  split
  · rfl
  · split
    · rfl
    · exact if_pos (by
        rw [Bool.or_eq_true]
        refine .inl ?_
        rw [bne_iff_ne]
        exact Nat.ne_of_lt hs)
theorem asg_one {g : Expr} (h : nst g = true) (env : Env) : (assignEach [g] env).map (·.2) = [assign g env] := by
  cases g <;> first | rfl | cases h
theorem ps_asgE (c : CtxOk C m X WE k) (q : StmOk m X fo) {t : Tg} {e : Ev.E} {g x : Expr} {pos : Pos} (h : mtS m (.asg t e) (.Assign [g] x pos) = true) : PS X (.Assign [g] x pos) (RdS C X WE fo (.asg t e)) := by
  simp only [mtS, Bool.and_eq_true, Bool.or_eq_true, Bool.not_eq_true'] at h
  obtain ⟨⟨⟨⟨h1, h2⟩, h3⟩, h4⟩, h5⟩ := h
  have rdA : ∀ D σ H, RdS C X WE fo (.asg t e) D σ H → RdE C X WE e σ H fun v H1 => gA C m X WE t v σ H1 D.nx := fun D σ H w => by
    refine (rdS_bnd (rel := relA X.K X.mg) (m := evE C e) (f := fun en d => bnd (asgA t (evE C) d en) fun e' => ret (.nx e')) q.fm w).imp ?_
    rintro v H1 ⟨FF, env, st, d, W, μ, F, S, E, r, p⟩
    exact gA_of q F S E r p
  by_cases hs : nlc x = true ∨ swB m.sc x g = false
  · refine (ps_asg (sndE c e x h2) (pg_asg c h1) (sw_eq c q hs (mtE_nsd h2)) ?_ (asg_one h3 _)).imp rdA
    cases g <;> first | rfl | (simp at h5; done) | skip
    cases x <;> first | rfl | (simp at h5; done) | skip
    exact sws_none c (by simpa using h5)
  · have hs1 : nlc x = false := by
      cases e1 : nlc x with
      | true => exact absurd (.inl e1) hs
      | false => rfl
    have hs2 : swB m.sc x g = true := by
      cases e1 : swB m.sc x g with
      | false => exact absurd (.inr e1) hs
      | true => rfl
    have hn : ∃ i, t = .name i := by
      rcases h4 with (h4 | h4) | h4
      · exact absurd (.inl h4) hs
      · exact absurd (.inr h4) hs
      · cases t <;> first | exact ⟨_, rfl⟩ | cases h4
    obtain ⟨i, rfl⟩ := hn
    cases x <;> first | (simp [swB] at hs2; done) | skip
    rename_i elt gs scope lpos
    cases g <;> first | (simp [swB] at hs2; done) | skip
    rename_i y py
    simp only [swB, Bool.and_eq_true, decide_eq_true_eq, Bool.not_eq_true'] at hs2
    obtain ⟨⟨w1, w2⟩, w3⟩ := hs2
    simp only [mtA, mtTg, Bool.and_eq_true] at h1
    obtain ⟨g1, g2, g3⟩ := c.tgt h1.1
    cases e <;> first | (simp [mtE] at h2; done) | skip
    rename_i mm own tg it cs elt'
    match gs, h2, rdA with
    | [⟨t, it', fs, z⟩], h2, rdA =>
      simp only [mtE, Bool.and_eq_true, decide_eq_true_eq] at h2
      obtain ⟨⟨⟨⟨⟨⟨rfl, b1⟩, b2⟩, b3⟩, b4⟩, b5⟩, b6⟩ := h2
      have ok : BlkOk X.N X.env.scope scope own := by
        rw [c.hN, c.hsc]
        exact blkOk_by b1
      have hyl : X.env.scope.names.lookup y = some .local := by
        rw [c.hsc]
        exact w1
      refine (ps_setLc (te := rd X.K X.mg (fun _ _ _ _ => False) (relA X.K X.mg) (evE C elt')) (tt := rd X.K X.mg (fun _ _ _ _ => False) relB (evTs C cs)) (g := gP X.K X.mg (own.map (·.2)) tg) (wi := rd X.K X.mg WE (relI X.K X.mg) (evIt C it)) (own := own)
        c.calm (c.hN ▸ c.nd) g1 hyl (sw_true q.kind hyl w2 w3) (sndIt c it it' t b2) ok (fun s H D cl fp => sndTg (c.blk s H scope D cl fp) _ tg t b4) (fun s H D cl fp => sndTs (c.blk s H scope D cl fp) cs fs b5) (fun s H D cl fp => sndE (c.blk s H scope D cl fp) elt' elt b6) (nset_for b3 X.env)).imp ?_
      intro D σ H w
      exact rd_comp C (rdA D σ H w)
    | [], h2, _ => simp [mtE] at h2
    | _ :: _ :: _, h2, _ => simp [mtE] at h2
theorem namesB_len : ∀ {is : List Nat} {gs : List Expr}, namesB m is gs = true → is.length = gs.length
  | [], [], _ => rfl
  | [], _ :: _, h => by simp [namesB] at h
  | _ :: _, [], h => by simp [namesB] at h
  | i :: is, g :: gs, h => by
    cases g <;> simp [namesB] at h
    rw [List.length_cons, List.length_cons, namesB_len h.2]
theorem sws2 {env : Env} {y1 y2 : Str} {p1 p2 : Pos} {kt : Nat} {pt : Pos} {a b : Expr} {k2 : Nat} {pt2 : Pos} (hb : env.blockKind = .function) (k1 : env.kindOf y1 = some .local) (k2' : env.kindOf y2 = some .local) (hl : p2.line = p1.line) (hy : y1 ≠ y2)
    (na : nst a = true) (nb : nst b = true) (hf : [a, b].all (foldedForSure 8) = false) (hc : [a, b].all (constantsAlone 8) = false) : swappedStores [.Tuple [.Name y1 p1, .Name y2 p2] kt pt] (.Tuple [a, b] k2 pt2) env = pure (some [y1, y2]) := by
  have ed : [y1, y2].eraseDups = [y1, y2] := by
    have : (y2 == y1) = false := by simpa using fun e => hy e.symm
    simp [List.eraseDups, List.eraseDupsBy, List.eraseDupsBy.loop, this]
  unfold swappedStores
  simp only [hb, k1, k2', hl, hf, hc, Expr.pos, List.filterMap, List.head?, Option.map, Option.getD, ed, List.length, beq_self_eq_true, Bool.and_true, if_true, bne_self_eq_false, Bool.or_false, Bool.or_true, Bool.true_or, Bool.not_true, Bool.false_or, if_false, Bool.false_eq_true, List.any]
  clear hf hc
  split
  · cases na
  · cases b <;> first | rfl | cases nb
theorem sws3 {env : Env} {y1 y2 y3 : Str} {p1 p2 p3 : Pos} {kt : Nat} {pt : Pos} {a b c : Expr} {k2 : Nat} {pt2 : Pos} (hb : env.blockKind = .function) (k1 : env.kindOf y1 = some .local) (k2' : env.kindOf y2 = some .local) (k3' : env.kindOf y3 = some .local) (hl : p2.line = p1.line) (hl3 : p3.line = p1.line) (hy : y1 ≠ y2) (hy2 : y1 ≠ y3) (hy3 : y2 ≠ y3)
    (na : nst a = true) (nb : nst b = true) (nc : nst c = true) (hf : [a, b, c].all (foldedForSure 8) = false) (hc : [a, b, c].all (constantsAlone 8) = false) : swappedStores [.Tuple [.Name y1 p1, .Name y2 p2, .Name y3 p3] kt pt] (.Tuple [a, b, c] k2 pt2) env = pure (some [y1, y2, y3]) := by
  have ed : [y1, y2, y3].eraseDups = [y1, y2, y3] := by
    have e1 : (y2 == y1) = false := by simpa using fun e => hy e.symm
    have e2 : (y3 == y1) = false := by simpa using fun e => hy2 e.symm
    have e3 : (y3 == y2) = false := by simpa using fun e => hy3 e.symm
    simp [List.eraseDups, List.eraseDupsBy, List.eraseDupsBy.loop, e1, e2, e3]
  unfold swappedStores
  simp only [hb, k1, k2', k3', hl, hl3, hf, hc, Expr.pos, List.filterMap, List.head?, Option.map, Option.getD, ed, List.length, beq_self_eq_true, Bool.and_true, if_true, bne_self_eq_false, Bool.or_false, Bool.or_true, Bool.true_or, Bool.not_true, Bool.false_or, if_false, Bool.false_eq_true, List.any]
  clear hf hc
  split
  · cases na
  · cases b <;> first | exact nomatch (show false = true from nb) | (cases c <;> first | rfl | exact nomatch (show false = true from nc))
theorem mtEs_nst : ∀ {es : Es} {xs : List Expr}, mtEs m es xs = true → ∀ x ∈ xs, nst x = true
  | .nil, [], _, _, hx => nomatch hx
  | .nil, _ :: _, h, _, _ => by simp [mtEs] at h
  | .cons _ _, [], h, _, _ => by simp [mtEs] at h
  | .cons e r, y :: ys, h, x, hx => by
    simp only [mtEs, Bool.and_eq_true] at h
    rcases List.mem_cons.mp hx with e | hx
    · subst e
      exact h.1.2
    · exact mtEs_nst h.2 x hx
theorem ps_parE (c : CtxOk C m X WE k) (q : StmOk m X fo) {is : List Nat} {es : Es} {g x : Expr} {pos : Pos} (h : mtS m (.par is es) (.Assign [g] x pos) = true) : PS X (.Assign [g] x pos) (RdS C X WE fo (.par is es)) := by
  cases g <;> first | (simp [mtS] at h; done) | skip
  rename_i gs kk gp
  cases x <;> first | (simp [mtS] at h; done) | skip
  rename_i xs k2 xp
  simp only [mtS, Bool.and_eq_true, Bool.or_eq_true, Bool.not_eq_true', decide_eq_true_eq] at h
  obtain ⟨⟨⟨⟨⟨⟨⟨h1, h2⟩, h3⟩, h4⟩, h5⟩, h6⟩, h7⟩, h8⟩ := h
  have rdA : ∀ D σ H, RdS C X WE fo (.par is es) D σ H → RdA C X WE es σ H fun vs H1 => ∃ FF env st ds W μ, fo FF W ∧ SA X.K X.mg FF H1 W μ st ∧ RE X.K X.mg W μ σ env ∧ Rpas X.K X.mg W μ ds vs ∧ PtF X.K X.mg WE fo W μ (match setEs env is ds with
      | some e' => R.ok (.nx e') st
      | none => R.no) D := fun D σ H w => by
    refine (rdS_bnd (rel := relL X.K X.mg) (m := evEs C es) (f := fun en xs => (match setEs en is xs with
      | some e' => ret (.nx e')
      | none => no)) q.fm w).imp ?_
    rintro vs H1 ⟨FF, env, st, ds, W, μ, F, S, E, r, p⟩
    refine ⟨FF, env, st, ds, W, μ, F, S, E, r, ?_⟩
    cases e : setEs env is ds <;> rw [e] at p <;> exact p
  have nv := mtEs_nst h2
  have hk := blockKind_fn q
  have ix : ∀ {i j : Nat} {y z : Str}, m.N[i]? = some y → m.N[j]? = some z → i ≠ j → y ≠ z := fun {i j y z} a b n e => n (nodup_ix (N := m.N) c.nd a (e ▸ b))
  have len := namesB_len h1
  rcases h4 with h4 | h4
  · match gs, is, xs, h4, h3, len with
    | [g1, g2], [i1, i2], [v1, v2], _, _, _ =>
      cases g1 <;> first | (simp [namesB] at h1; done) | skip
      cases g2 <;> first | (simp [namesB] at h1; done) | skip
      rename_i y1 p1 y2 p2
      simp only [namesB, Bool.and_eq_true, decide_eq_true_eq] at h1
      obtain ⟨⟨a1, a2⟩, ⟨b1, b2⟩, _⟩ := h1
      have hij : i1 ≠ i2 := by
        intro e
        subst e
        simp at h6
      simp only [onLine, Bool.and_eq_true, beq_iff_eq, List.head?_cons, Option.map_some, Option.getD_some, Expr.pos] at h5
      refine (ps_par c.calm (c.hN ▸ c.nd) (by rw [c.hN]; exact a1) (by rw [c.hN]; exact b1) hij (by rw [c.hsc]; exact a2) (by rw [c.hsc]; exact b2) (sndEs c es _ h2)
        (sws2 hk (by rw [kindOf_sc c]; exact a2) (by rw [kindOf_sc c]; exact b2) h5.2.1 (ix a1 b1 hij) (nv _ (by simp)) (nv _ (by simp)) h7 h8)).imp ?_
      intro D σ H w
      refine (rdA D σ H w).imp ?_
      rintro vs H1 ⟨FF, env, st, ds, W, μ, F, S, E, r, p⟩
      cases ds with
      | nil => exact p.elim
      | cons d1 ds => cases ds with
        | nil => exact p.elim
        | cons d2 ds => cases ds with
          | cons _ _ => exact p.elim
          | nil =>
            obtain ⟨u1, r1, e1, q1, u2, r2, e2, q2, e3⟩ := r
            have e3 : r2 = [] := e3
            subst e3 e2 e1
            exact ⟨u1, u2, rfl, ptF_nx F S ((E.set q1).set q2) p⟩
  · match gs, is, xs, h4, h3, len with
    | [g1, g2, g3], [i1, i2, i3], [v1, v2, v3], _, _, _ =>
      cases g1 <;> first | (simp [namesB] at h1; done) | skip
      cases g2 <;> first | (simp [namesB] at h1; done) | skip
      cases g3 <;> first | (simp [namesB] at h1; done) | skip
      rename_i y1 p1 y2 p2 y3 p3
      simp only [namesB, Bool.and_eq_true, decide_eq_true_eq] at h1
      obtain ⟨⟨a1, a2⟩, ⟨b1, b2⟩, ⟨c1, c2⟩, _⟩ := h1
      have hij : i1 ≠ i2 ∧ i1 ≠ i3 ∧ i2 ≠ i3 := by
        simp only [List.nodup_cons, List.mem_cons, List.not_mem_nil, or_false, not_or] at h6
        exact ⟨h6.1.1, h6.1.2, h6.2.1⟩
      obtain ⟨n1, n2, n3⟩ := hij
      simp only [onLine, Bool.and_eq_true, beq_iff_eq, List.head?_cons, Option.map_some, Option.getD_some, Expr.pos] at h5
      refine (ps_par3 c.calm (c.hN ▸ c.nd) (by rw [c.hN]; exact a1) (by rw [c.hN]; exact b1) (by rw [c.hN]; exact c1) n1 n2 n3 (by rw [c.hsc]; exact a2) (by rw [c.hsc]; exact b2) (by rw [c.hsc]; exact c2) (sndEs c es _ h2)
        (sws3 hk (by rw [kindOf_sc c]; exact a2) (by rw [kindOf_sc c]; exact b2) (by rw [kindOf_sc c]; exact c2) h5.2.1 h5.2.2.1 (ix a1 b1 n1) (ix a1 c1 n2) (ix b1 c1 n3) (nv _ (by simp)) (nv _ (by simp)) (nv _ (by simp)) h7 h8)).imp ?_
      intro D σ H w
      refine (rdA D σ H w).imp ?_
      rintro vs H1 ⟨FF, env, st, ds, W, μ, F, S, E, r, p⟩
      cases ds with
      | nil => exact p.elim
      | cons d1 ds => cases ds with
        | nil => exact p.elim
        | cons d2 ds => cases ds with
          | nil => exact p.elim
          | cons d3 ds => cases ds with
            | cons _ _ => exact p.elim
            | nil =>
              obtain ⟨u1, r1, e1, q1, u2, r2, e2, q2, u3, r3, e3, q3, e4⟩ := r
              have e4 : r3 = [] := e4
              subst e4 e3 e2 e1
              exact ⟨u1, u2, u3, rfl, ptF_nx F S (((E.set q1).set q2).set q3) p⟩
end
end Ev
end
section
set_option Elab.async false
set_option linter.all false
set_option maxRecDepth 100000
set_option maxHeartbeats 4000003
namespace Ev
open PySem PySem.Spec PyProof.Rows L2
variable [Gh]
section
variable {C : Cx'} {m : MC} {X : Cx} {WE : WX} {k : Nat} {fo : FO}
/-- one turn of a for loop -/
def forB (C : Cx') (t : Tg) (b : Ss) (x : Ev.D) (e : En) : M Fl := match asgP t x e with
  | some e' => evSs C b e'
  | none => no
theorem evS_for (t : Tg) (it : Ev.It) (b : Ss) (e : En) : evS C (.for_ t it b) e = bnd (evIt C it e) fun xs => loopF (forB C t b) xs e := rfl
theorem PtF.loop {K : PySem.W.Frag} {mg : Str → Option Value} {W : Vw} {μ : List Addr} {st : Sto} {D : Ends} {mm : M Fl} {f : En → M Fl} {N : L2.St → Hp → Prop}
    (hN : ∀ FF' σ' H' W' μ' e' st', fo FF' W' → SA K mg FF' H' W' μ' st' → Ex2 W μ W' μ' → RE K mg W' μ' σ' e' → PtF K mg WE fo W' μ' (f e' st') D → N σ' H')
    (h : PtF K mg WE fo W μ (bnd mm (fun o => match o with
      | .nx e' => f e'
      | .ct e' => f e'
      | .bk e' => ret (.nx e')
      | .rt d => ret (.rt d)) st) D) : PtF K mg WE fo W μ (mm st) { D with nx := N, ct := N, bk := D.nx } := by
  unfold bnd at h
  cases e : mm st with
  | ok r st1 =>
    rw [e] at h
    intro FF' σ' H' W' μ' F s x
    cases r with
    | nx e' => exact fun z => hN FF' σ' H' W' μ' e' st1 F s x z (PtF.mono x h)
    | ct e' => exact fun z => hN FF' σ' H' W' μ' e' st1 F s x z (PtF.mono x h)
    | bk e' => exact fun z => h FF' σ' H' W' μ' F s x z
    | rt d => exact fun v z => h FF' σ' H' W' μ' F s x v z
  | exc y st1 =>
    rw [e] at h
    exact h
  | no =>
    rw [e] at h
    exact h
theorem s_for (c : CtxOk C m X WE k) (q : StmOk m X fo) {t : Tg} {it : Ev.It} {b : Ss} {g i : Expr} {p : List Stmt} {pos : Pos} (hs : nset i = true) (hg : PG X g (gP X.K X.mg (List.range m.N.length) t)) (hi : PI X g i (rd X.K X.mg WE (relI X.K X.mg) (evIt C it))) (hb : PSs X p (RdSs C X WE fo b)) :
    PS X (.For g i p [] pos) (RdS C X WE fo (.for_ t it b)) := by
  refine (ps_for q.own c.calm hi hg hb (nset_for hs X.env)).imp ?_
  intro D σ H w
  refine (rdS_bnd (rel := relI X.K X.mg) (m := evIt C it) (f := fun en xs => loopF (forB C t b) xs en) q.fm w).imp ?_
  rintro J H1 ⟨FF, env, st, xs, W, μ, F, S, E, rj, p⟩
  let Wv : Nat → Nat → L2.St → Hp → Prop := fun i n σ H => n = xs.length - i ∧ i ≤ xs.length ∧ ∃ FF env st W' μ', fo FF W' ∧ SA X.K X.mg FF H W' μ' st ∧ RE X.K X.mg W' μ' σ env ∧ LeW W W' ∧ PtF X.K X.mg WE fo W' μ' (loopF (forB C t b) (xs.drop i) env st) D
  refine ⟨Wv, ⟨_, rfl, Nat.zero_le _, FF, env, st, W, μ, F, S, E, LeW.refl _, by simpa using p⟩, ?_⟩
  rintro i n σ H ⟨rfl, hle, FF, env, st, W', μ', F, S, E, le, p⟩
  obtain ⟨j1, j2⟩ := rj i FF H W' μ' st le S
  by_cases hlt : i < xs.length
  · refine .inr ?_
    obtain ⟨d, hd⟩ : ∃ d, xs[i]? = some d := ⟨xs[i], by simp [hlt]⟩
    obtain ⟨j3, j4⟩ := j2 d hd
    have hdrop : xs.drop i = d :: xs.drop (i + 1) := by
      rw [List.drop_eq_getElem_cons hlt]
      congr 1
      have := List.getElem?_eq_getElem hlt
      rw [hd] at this
      exact (Option.some.inj this).symm
    rw [hdrop] at p
    refine ⟨j3, fun σ' H' => Wv (i + 1) (xs.length - (i + 1)) σ' H', fun σ' H' z => ⟨_, by omega, z⟩, fun x H' y => ?_⟩
    obtain ⟨W2, S2, x2, rx⟩ := j4 x H' y
    have p : PtF X.K X.mg WE fo W' μ' (bnd (forB C t b d env) (fun o => match o with
      | .nx e' => loopF (forB C t b) (xs.drop (i + 1)) e'
      | .ct e' => loopF (forB C t b) (xs.drop (i + 1)) e'
      | .bk e' => ret (.nx e')
      | .rt d => ret (.rt d)) st) D := p
    have p2 := PtF.loop (N := fun σ' H' => Wv (i + 1) (xs.length - (i + 1)) σ' H') (fun FF' σ' H' W3 μ3 e' st' F3 S3 x3 E3 p3 => ⟨rfl, hlt, FF', e', st', W3, μ3, F3, S3, E3, (le.trans x2.w).trans x3.w, p3⟩) (PtF.mono x2 p)
    unfold forB at p2
    cases ea : asgP t d env with
    | none => rw [ea] at p2; exact False.elim p2
    | some e' =>
      rw [ea] at p2
      exact ⟨FF, env, st, W2, μ', d, e', S2, E.mono x2, rx, ea, fun σ2 E2 _ _ => ⟨FF, e', st, W2, μ', q.fm _ _ _ x2.w F, S2, E2, p2⟩⟩
  · have e : i = xs.length := by omega
    subst e
    refine .inl ⟨j1 rfl, ?_⟩
    rw [List.drop_length] at p
    exact ptF_nx F S E p
theorem s_whl (c : CtxOk C m X WE k) (q : StmOk m X fo) {t : T} {b : Ss} {g : Expr} {p : List Stmt} {pos : Pos} (hc : PT X g (RdT C X WE t)) (hb : PSs X p (RdSs C X WE fo b)) : PS X (.While g p [] pos) (RdS C X WE fo (.whl t b)) := by
  refine (ps_while q.own hc hb).imp ?_
  rintro D σ H ⟨FF, env, st, W, μ, F, S, E, p⟩
  let Wv : Nat → L2.St → Hp → Prop := fun n σ H => ∃ FF env st W' μ', fo FF W' ∧ SA X.K X.mg FF H W' μ' st ∧ RE X.K X.mg W' μ' σ env ∧ PtF X.K X.mg WE fo W' μ' (loopW (evT C t) (evSs C b) n env st) D
  refine ⟨Wv, ⟨C.wf, FF, env, st, W, μ, F, S, E, p⟩, ?_⟩
  rintro n σ H ⟨FF, env, st, W, μ, F, S, E, p⟩
  cases n with
  | zero => exact False.elim p
  | succ n =>
    refine ⟨FF, env, st, W, μ, S, E, (ptF_bnd (rel := relB) q.fm F p).imp ?_⟩
    rintro r H1 ⟨r', st1, W1, μ1, F1, S1, x1, hr, p⟩
    obtain rfl : r' = r := hr
    cases r' with
    | false =>
      rw [if_neg (by simp)]
      exact ptF_nx F1 S1 (E.mono x1) p
    | true =>
      rw [if_pos rfl]
      exact ⟨Wv n, fun σ' H' z => ⟨n, Nat.lt_succ_self n, z⟩, FF, env, st1, W1, μ1, F1, S1, E.mono x1, PtF.loop (N := Wv n) (fun FF' σ' H' W3 μ3 e' st' F3 S3 x3 E3 p3 => ⟨FF', e', st', W3, μ3, F3, S3, E3, p3⟩) p⟩
theorem s_ite (c : CtxOk C m X WE k) (q : StmOk m X fo) {t : T} {a b : Ss} {g : Expr} {p p' : List Stmt} {pos : Pos} (hc : PT X g (RdT C X WE t)) (ha : PSs X p (RdSs C X WE fo a)) (hb : PSs X p' (RdSs C X WE fo b)) : PS X (.If g p p' pos) (RdS C X WE fo (.ite t a b)) := by
  refine (ps_if hc ha hb).imp ?_
  intro D σ H w
  refine (rdS_bnd (rel := relB) (m := evT C t) (f := fun en r => (match r with
    | true => evSs C a en
    | false => evSs C b en)) q.fm w).imp ?_
  rintro r H1 ⟨FF, env, st, r', W, μ, F, S, E, hr, p⟩
  obtain rfl : r' = r := hr
  cases r' with
  | true =>
    rw [if_pos rfl]
    exact ⟨FF, env, st, W, μ, F, S, E, p⟩
  | false =>
    rw [if_neg (by simp)]
    exact ⟨FF, env, st, W, μ, F, S, E, p⟩
theorem s_rtn (c : CtxOk C m X WE k) (q : StmOk m X fo) {e : Ev.E} {g : Expr} {pos : Pos} (hc : PE X g (RdE C X WE e)) : PS X (.Return (some g) pos) (RdS C X WE fo (.rtn e)) := by
  refine (ps_ret hc).imp ?_
  intro D σ H w
  refine (rdS_bnd (rel := relA X.K X.mg) (m := evE C e) (f := fun en d => ret (.rt d)) q.fm w).imp ?_
  rintro v H1 ⟨FF, env, st, d, W, μ, F, S, E, r, p⟩
  exact p FF σ H1 W μ F S (Ex2.refl _ _) v r
theorem s_rtnN (c : CtxOk C m X WE k) (q : StmOk m X fo) {pos : Pos} : PS X (.Return none pos) (RdS C X WE fo .rtnN) := by
  refine ps_retN.imp ?_
  rintro D σ H ⟨FF, env, st, W, μ, F, S, E, p⟩
  exact p FF σ H W μ F S (Ex2.refl _ _) .non (by simp only [Rpa, Rp])
theorem s_exp (c : CtxOk C m X WE k) (q : StmOk m X fo) {e : Ev.E} {g : Expr} {pos : Pos} (hn : nlc g = true) (hc : PE X g (RdE C X WE e)) : PS X (.Expr g pos) (RdS C X WE fo (.exp e)) := by
  refine (ps_expr hc (nlc_swap hn _ _ _)).imp ?_
  intro D σ H w
  refine (rdS_bnd (rel := relA X.K X.mg) (m := evE C e) (f := fun en d => ret (.nx en)) q.fm w).imp ?_
  rintro v H1 ⟨FF, env, st, d, W, μ, F, S, E, r, p⟩
  exact ptF_nx F S E p
theorem s_pass (c : CtxOk C m X WE k) (q : StmOk m X fo) {pos : Pos} : PS X (.Pass pos) (RdS C X WE fo .pass) := by
  refine ps_pass.imp ?_
  rintro D σ H ⟨FF, env, st, W, μ, F, S, E, p⟩
  exact ptF_nx F S E p
theorem s_brk (c : CtxOk C m X WE k) (q : StmOk m X fo) {pos : Pos} : PS X (.Break pos) (RdS C X WE fo .brk) := by
  refine ps_break.imp ?_
  rintro D σ H ⟨FF, env, st, W, μ, F, S, E, p⟩
  exact p FF σ H W μ F S (Ex2.refl _ _) E
theorem s_cont (c : CtxOk C m X WE k) (q : StmOk m X fo) {pos : Pos} : PS X (.Continue pos) (RdS C X WE fo .cont) := by
  refine ps_continue.imp ?_
  rintro D σ H ⟨FF, env, st, W, μ, F, S, E, p⟩
  exact p FF σ H W μ F S (Ex2.refl _ _) E
end
end Ev
end
section
set_option Elab.async false
set_option linter.all false
set_option maxRecDepth 100000
set_option maxHeartbeats 4000003
namespace Ev
open PySem PySem.Spec PyProof.Rows L2
variable [Gh]
section
variable {C : Cx'} {m : MC} {X : Cx} {WE : WX} {k : Nat} {fo : FO}
theorem rps_len {K : PySem.W.Frag} {mg : Str → Option Value} {W : Vw} {ds : List Ev.D} {vs : List V} (h : Rps K mg W ds vs) : vs.length = ds.length := h.length.symm
/-- the fields of what is raised -/
theorem xd_look {K : PySem.W.Frag} {mg : Str → Option Value} {W : Vw} : ∀ {fs : List Str} {ds : List Ev.D} {vs : List V}, fs.length = ds.length → Rps K mg W ds vs → ∀ f d, lkF fs ds f = some d → ∃ v, (fs.zip vs).lookup f = some v ∧ Rp K mg W d v
  | [], _, _, _, _, f, d, h => by simp [lkF] at h
  | g :: fs, [], _, l, _, _, _, _ => by simp at l
  | g :: fs, x :: ds, vs, l, r, f, d, h => by
    simp only [Rps] at r
    obtain ⟨v, us, rfl, r1, r2⟩ := r
    simp only [lkF] at h
    split at h
    · rename_i e
      cases h
      subst e
      exact ⟨v, by simp, r1⟩
    · rename_i e
      obtain ⟨u, h1, h2⟩ := xd_look (by simpa using l) r2 f d h
      refine ⟨u, ?_, h2⟩
      rw [List.zip_cons_cons, List.lookup_cons]
      have : (f == g) = false := by simpa using fun z => e z.symm
      rw [this]
      exact h1
theorem look_rev {fs : List Str} {vs : List V} (n : fs.Nodup) (f : Str) : (fs.zip vs).reverse.lookup f = (fs.zip vs).lookup f := by
  induction fs generalizing vs with
  | nil => rfl
  | cons g fs ih =>
    cases vs with
    | nil => rfl
    | cons v vs =>
      rw [List.zip_cons_cons, List.reverse_cons, List.lookup_append, ih (List.nodup_cons.mp n).2]
      by_cases e : f = g
      · subst e
        have nn : (fs.zip vs).lookup f = none := by
          cases hl : (fs.zip vs).lookup f with
          | none => rfl
          | some w => exact absurd (List.of_mem_zip (PySem.mem_of_lookup hl)).1 (List.nodup_cons.mp n).1
        rw [nn]
        simp [List.lookup_cons]
      · have ne : (f == g) = false := by simpa using e
        have r1 : List.lookup f ((g, v) :: fs.zip vs) = List.lookup f (fs.zip vs) := by
          rw [List.lookup_cons, ne]
        have r2 : List.lookup f [(g, v)] = none := by
          rw [List.lookup_cons, ne]
          rfl
        rw [r1, r2]
        cases (fs.zip vs).lookup f <;> rfl
theorem s_rse (c : CtxOk C m X WE k) (q : StmOk m X fo) {cn : Str} {es : Es} {xs : List Expr} {p pos rp : Pos} (hf : m.exn.contains cn = true) (hg : gloB m cn cn = true) (hm : mtEs m es xs = true) (hne : xs ≠ []) (ih : PA X xs (RdA C X WE es)) :
    PS X (.Raise (some (.Call (.Name cn p) xs [] pos)) none rp) (RdS C X WE fo (.rse cn es)) := by
  obtain ⟨_, g1, g2, _⟩ := c.gl hg
  obtain ⟨fs, hfs, ⟨A, fI, fd, ps, hA, oe, xf, hno, iC, tI, F1, hb, nd, h900⟩⟩ := c.exc cn (by simpa using hf)
  cases xs with
  | nil => exact absurd rfl hne
  | cons y ys =>
    cases es with
    | nil => simp [mtEs] at hm
    | cons ce cr =>
      simp only [mtEs, Bool.and_eq_true] at hm
      have pm : PMk X (.Call (.Name cn p) (y :: ys) [] pos) (tMkO A (spX X.K A fs) [] (RdA C X WE (.cons ce cr))) :=
        pmk_oex oe iC tI F1 (c.room.r.mono c.k2) hb .nil C8.pass0 g1 hA ih g2 (nst_each hm.1.2 ys X.env) (by rw [back_any, nst_all X.env hm.2])
      refine (ps_raise c.calm c.tk pm).imp ?_
      intro D σ H w
      refine (rd_len (rdS_bnd (rel := relL X.K X.mg) (m := evEs C (.cons ce cr)) (f := fun en xs => bnd (frzDs xs) fun xs => (match C.exs cn with
        | some fs => if decide (fs.length = xs.length) then thr ⟨cn, fs, xs⟩ else no
        | none => no)) q.fm w)).imp ?_
      rintro vs H1 ⟨hv, FF, env, st, ds, W, μ, F, S, E, r, p⟩
      obtain ⟨ds', st', W', F', S', x', rp, p⟩ := ptF_frzs q.fm F S r p
      rw [hfs] at p
      dsimp only at p
      split at p
      · rename_i hl
        have hl := of_decide_eq_true hl
        have lv : vs.length = fs.length := by rw [rps_len rp, hl]
        refine ⟨by omega, fun a na => ?_⟩
        rw [List.append_nil]
        refine ⟨a, vs, rfl, lv, upd_same, fun d H2 n ne e1 e2 e3 => ⟨rfl, d, _, e1, e2, ?_, ?_⟩⟩
        · rw [upd_ne ne] at n
          exact n
        · rw [upd_ne ne] at n
          have eh : upd (L2.del H2 a) d (.xd ((fs.zip vs).reverse)) = upd H1 d (.xd ((fs.zip vs).reverse)) := by
            funext b
            by_cases b1 : b = d
            · rw [b1, upd_same, upd_same]
            · rw [upd_ne b1, upd_ne b1]
              by_cases b2 : b = a
              · rw [b2, del_same, na]
              · rw [del_ne b2, e3 b b2 b1, upd_ne b2]
          rw [eh]
          have le := LeW.put (o := .xd ((fs.zip vs).reverse)) (S'.gnone n)
          refine p FF σ _ _ _ _ _ (q.fm _ _ _ le F') (S'.put n) ⟨le, [], by simp⟩ ⟨A, d, _, rfl, hA, rfl, upd_same, fun f dd h => ?_⟩
          obtain ⟨u, h1, h2⟩ := xd_look hl rp f dd h
          exact ⟨u, by rw [look_rev nd]; exact h1, h2.mono le⟩
      · exact False.elim p
end
/-! ### try: body, except X as n: .. , several clauses -/
abbrev Clz := Value × (Addr → Value → Option Addr → TS)
def endsN (D : Ends) (i : Nat) : Ends := ⟨fun τ G => D.nx (τ.set i none) G, D.rt, fun τ G => D.bk (τ.set i none) G, fun τ G => D.ct (τ.set i none) G⟩
def wHs (K : PySem.W.Frag) (Wo : WX) (D : Ends) (i : Nat) : List Clz → WX
  | [] => Wo
  | z :: r => fun cls d τ G => ∃ b, PySem.W.exmOne K cls z.1 = some b ∧ (b = true → ∀ a, G a = none → z.2 a cls d (endsN D i) (τ.set i (some (.ref a))) G) ∧ (b = false → wHs K Wo D i r cls d τ G)
inductive HsOk (X : Cx) (n : Str) : List ExceptHandler → List Clz → Prop
  | nil : HsOk X n [] []
  | cons {x : Str} {z : Clz} {b1 : Stmt} {su : List Stmt} {q1 q2 : Pos} {hr : List ExceptHandler} {r : List Clz} (nm : Names X x z.1)
      (run : ∀ (a : Addr) (oe : Obj) (cls : Value) (d : Option Addr) (pl : List (Addr × Obj)), Zc cls d oe → (∃ vs, oe.data = .fields vs) → PSs (X.suite a ((a, oe) :: pl)) (b1 :: su) (z.2 a cls d)) (t : HsOk X n hr r) :
      HsOk X n (.ExceptHandler (some (.Name x q1)) (some n) (b1 :: su) q2 :: hr) (z :: r)
section
variable {X : Cx} {n : Str} {i : Nat} {body : List Stmt} {h1 : ExceptHandler} {hr : List ExceptHandler} {l : List Clz} {pos : Pos} {tb : WX → TS} {Wo : WX}
theorem ps_trys (stk : X.stack = X.env :: X.outer) (fr : X.env.frame = some X.env.locals) (nd : X.N.Nodup) (hi : X.N[i]? = some n) (loc : X.env.kindOf n = some .local) (tk : Takes X Wo)
    (hb : ∀ (W : WX) (pl : List (Addr × Obj)) (xe : Value → Shared → Prop), Takes (X.tr pl xe) W → PassesOwn (model X.prog X.w) X.A X.env xe → PSs (X.tr pl xe) body (tb W)) (hh : HsOk X n (h1 :: hr) l) :
    PS X (.Try body (h1 :: hr) [] [] pos) (fun D σ H => tb (fun cls d τ G => τ.length = X.N.length → wHs X.K Wo D i l cls d τ G) D σ H) := by
  refine ⟨fun pins s σ H D I h => wpAny_Try_except ?_⟩
  have okX := I.ok
  have hN : Loc X.env.scope n := .inl loc
  refine wpAny_mono ((hb (fun cls d τ G => τ.length = X.N.length → wHs X.K Wo D i l cls d τ G) (X.pn ++ pins) _ ?_ PassesOwn.looking).run [] s σ H D (I.toTry _) h) ?_ (fun _ _ z => z)
  · intro u s' xx
    obtain ⟨a, B, s0, pins', τ, G, cls, d, rfl, J', nb, up, sky, na, os, ag, w⟩ := xx
    have J : Inv X pins τ G s0 := J'.ofTry okX
    have sky2 : Sky B (X.env :: X.outer) a (Zc cls d) X.env.locals s'.heap := stk ▸ sky
    refine Sky.land Zc.steady (by rw [okX.frames, stk]) fr sky2 fun g3 fl3 up3 => ?_
    have J3 : Inv X pins τ G { s' with heap := g3 } := J.landed nb fl3.1 (up.trans up3) os ag
    obtain ⟨oe3, vs3, e3, z3, d3⟩ := fl3.there
    have out : a ∉ frs (X.env :: X.outer) := fun hm => by
      obtain ⟨_, o', e', nf⟩ := fl3.2.2.1.mem hm
      cases e3.symm.trans e'
      exact nf _ d3
    have nL : a ≠ X.env.locals := fun z => out (List.mem_filterMap.mpr ⟨X.env, List.mem_cons_self, by rw [fr, z]⟩)
    have nF : a ∉ X.fs := fun hm => by
      obtain ⟨e, he, hq⟩ := List.mem_filterMap.mp hm
      exact out (List.mem_filterMap.mpr ⟨e, List.mem_cons_of_mem _ he, hq⟩)
    have S3 := J3.suite e3 d3 na nL nF
    have LT : PySem.W.Looks (model X.prog X.w) g3 (typeOf (.ref a)) cls := fun A Q E s k q => wpAny_typeOf_ref (k _ _ e3) (by rw [z3.1]; exact q)
    have step : ∀ {hs' : List ExceptHandler} {l' : List Clz}, HsOk X n hs' l' → wHs X.K Wo D i l' cls d τ G → wpAny (model X.prog X.w) X.A (handleBy (.ref a) X.env hs') (SP X pins D) X.xe { s' with heap := g3 } := by
      intro hs' l' hk
      induction hk with
      | nil =>
        intro w
        obtain ⟨_, _, _, oe, vs, T, oT, ts', he, hz, hd, e1, _⟩ := id fl3
        have up4 : wpAny (model X.prog X.w) X.A (setFlight (.ref a) X.env.frame) (fun _ s4 => wpAny (model X.prog X.w) X.A (throw (.ref a) : Sem Flow) (SP X pins D) X.xe s4) X.xe { s' with heap := g3 } := by
          rw [fr]
          exact HandSPX.setFlight_upZ fl3 fun g4 q4 u4 => wpAny_throw (tk _ _ ⟨a, B, s0, pins, τ, G, cls, d, rfl, J, nb, (up.trans up3).trans u4, .inr (.inr (by rw [stk]; exact q4)), na, os, ag, w⟩)
        refine wpAny_handleBy_nil ?_
        unfold PySem.passOn
        refine wpAny_bind (wpAny_field he hd e1 ?_)
        rw [if_neg (by simp : ¬ ((Value.ref T == Value.none) = true))]
        first
          | exact wpAny_bind (wpAny_pure (wpAny_bind up4))
          | exact wpAny_bind up4
      | @cons x z b1 su q1 q2 hr2 r2 nm run t ih =>
        rintro ⟨b, eb, yes, nope⟩
        refine wpAny_handleBy_cons (codeAny_handlers_test ?_) (by intro q; cases q)
        have look : ∀ {Q : Value → Shared → Prop} {E : Value → Shared → Prop}, Q z.1 { s' with heap := g3 } → wpAny (model X.prog X.w) (X.A.mark (some (.ref a))) (eval (.Name x q1) X.env) Q E { s' with heap := g3 } := fun {Q E} q => by
          obtain ⟨hg, hdb, hm | ⟨hm, hv, hnn⟩⟩ := nm
          · exact ld_glob (X := X.suite a ((a, oe3) :: (X.pn ++ pins))) S3 hg hm q hdb
          · exact ld_blt (X := X.suite a ((a, oe3) :: (X.pn ++ pins))) S3 hg hm hv q hnn hdb
        refine look ((PySem.W.exm_one (M := model X.prog X.w) J3.kIn LT eb).here ?_)
        cases b with
        | false => exact ih (nope rfl)
        | true =>
          refine codeAny_handlers_suite_as (HandSPX.lands_againZ fl3 fun g4 fl4 up4 => ?_)
          have J4 : Inv X pins τ G { s' with heap := g4 } := J.landed nb fl4.1 ((up.trans up3).trans up4) os ag
          obtain ⟨oe4, vs4, e4, z4, d4⟩ := fl4.there
          refine store_ok (X := X.suite a ((a, oe4) :: (X.pn ++ pins))) (v := .ref a) (J4.suite e4 d4 na nL nF) nd hi hN rfl (fun s5 S5 => ?_) (.inr loc)
          have bye : ∀ {s6 : Shared} {τ6 : L2.St} {G6 : Hp} {Q : Shared → Prop}, Inv (X.suite a ((a, oe4) :: (X.pn ++ pins))) [] τ6 G6 s6 → (∀ s7, Inv X pins (τ6.set i none) G6 s7 → Q s7) →
              wpAny (model X.prog X.w) X.A (do bindName X.env n .none; unbindBehindTheSuite X.env n q2) (fun _ s7 => Q s7) X.xe s6 := fun S6 hq => gone_ok (S6.unsuite okX) nd hi loc hq
          refine wpAny_mono ((run a oe4 cls d (X.pn ++ pins) z4 ⟨_, d4⟩).run [] s5 _ G _ S5 (yes rfl a na)) (fun f s6 hsp => ?_) (fun _ _ z => False.elim z)
          cases f with
          | ret u =>
            obtain ⟨v6, τ6, G6, S6, r6, q6⟩ := hsp
            exact bye S6 fun s7 J7 => ⟨_, _, _, J7, r6, q6⟩
          | next =>
            obtain ⟨τ6, G6, S6, q6⟩ := hsp
            exact bye S6 fun s7 J7 => ⟨_, _, J7, q6⟩
          | brk =>
            obtain ⟨τ6, G6, S6, q6⟩ := hsp
            exact bye S6 fun s7 J7 => ⟨_, _, J7, q6⟩
          | cont =>
            obtain ⟨τ6, G6, S6, q6⟩ := hsp
            exact bye S6 fun s7 J7 => ⟨_, _, J7, q6⟩
    exact step hh (w J.len)
  · intro f s1 hsp
    cases f with
    | ret u =>
      obtain ⟨v, τ, G, J', rv, q⟩ := hsp
      exact ⟨v, τ, G, J'.ofTry okX, rv, q⟩
    | next =>
      obtain ⟨τ, G, J', q⟩ := hsp
      exact wpAny_execs_nil ⟨τ, G, J'.ofTry okX, q⟩
    | brk =>
      obtain ⟨τ, G, J', q⟩ := hsp
      exact ⟨τ, G, J'.ofTry okX, q⟩
    | cont =>
      obtain ⟨τ, G, J', q⟩ := hsp
      exact ⟨τ, G, J'.ofTry okX, q⟩
end
/-! ### what a clause gives back -/
def tXfN (K : PySem.W.Frag) (a : Addr) (cls : Value) (d : Option Addr) (A : Addr) (f : Str) (te : TE) : TE := fun σ H Q => PySem.W.findIn K (.ref A) f = some none ∧ tXf a cls d A f te σ H Q
def tHnd (K : PySem.W.Frag) (i : Nat) (a : Addr) (cls : Value) (d : Option Addr) (A : Addr) : Es → TA
  | .nil => tNil
  | .cons (.c (.str s)) r => tCons (tC (.str s)) (tHnd K i a cls d A r)
  | .cons (.xf f) r => tCons (tXfN K a cls d A f (tVar i)) (tHnd K i a cls d A r)
  | _ => fun _ _ _ => False
section
variable {X : Cx} {n : Str} {i : Nat} {a A : Addr} {oe : Obj} {cls : Value} {d : Option Addr} {pl : List (Addr × Obj)}
theorem pa_hnd (T : XfC X.K A) (hi : X.N[i]? = some n) (loc : X.env.scope.names.lookup n = some .local) (u1 : (n == ("__debug__" : Str)) = false) (u2 : (n == ("__classdict__" : Str)) = false) (hz : Zc cls d oe) (hf : ∃ vs, oe.data = .fields vs) :
    ∀ {es : Es} {xs : List Expr}, mtX n es xs = true → PA (X.suite a ((a, oe) :: pl)) xs (tHnd X.K i a cls d A es)
  | .nil, xs, h => by
    cases xs with
    | nil => exact pa_nil
    | cons _ _ => simp [mtX] at h
  | .cons e r, xs, h => by
    cases xs with
    | nil => cases e <;> first | (simp [mtX] at h; done) | (rename_i k; cases k <;> simp [mtX] at h)
    | cons x xs =>
      cases e <;> first | (simp [mtX] at h; done) | skip
      · rename_i k
        cases k <;> first | (simp [mtX] at h; done) | skip
        cases x <;> first | (simp [mtX] at h; done) | skip
        rename_i v kk pos
        cases v <;> first | (simp [mtX] at h; done) | skip
        simp only [mtX, Bool.and_eq_true, decide_eq_true_eq] at h
        obtain ⟨rfl, h2⟩ := h
        exact pa_cons pe_str (pa_hnd T hi loc u1 u2 hz hf h2) rfl
      · rename_i f
        cases x <;> first | (simp [mtX] at h; done) | skip
        rename_i b g pos
        cases b <;> first | (simp [mtX] at h; done) | skip
        rename_i y yp
        simp only [mtX, Bool.and_eq_true, decide_eq_true_eq] at h
        obtain ⟨⟨rfl, ey⟩, h2⟩ := h
        have pv : PE (X.suite a ((a, oe) :: pl)) (.Name y yp) (tVar i) := by
          rw [ey]
          exact pe_var hi (.inl loc) u1 u2
        exact pa_cons (te := tXfN X.K a cls d A f (tVar i)) ⟨fun pins s σ H Q I ⟨hno, w⟩ => (pe_xf T hno hz hf pv rfl).run pins s σ H Q I w⟩ (pa_hnd T hi loc u1 u2 hz hf h2) rfl
end
/-- such a row has its data at once, and changes nothing -/
theorem hnd_ev {C : Cx'} {n : Str} {st : Sto} : ∀ {es : Es} {xs : List Expr}, mtX n es xs = true → (∃ ds, evEs C es [] st = .ok ds st) ∨ evEs C es [] st = .no
  | .nil, _, _ => .inl ⟨[], rfl⟩
  | .cons e r, [], h => by cases e <;> first | (simp [mtX] at h; done) | (rename_i k; cases k <;> simp [mtX] at h)
  | .cons e r, x :: xs, h => by
    have tail : ∀ (v : Ev.D), evE C e [] st = .ok v st → mtX n r xs = true → (∃ ds, evEs C (.cons e r) [] st = .ok ds st) ∨ evEs C (.cons e r) [] st = .no := fun v hv h2 => by
      have hd : evEs C (.cons e r) [] st = bnd (evEs C r []) (fun xs => ret (v :: xs)) st := bnd_ok (f := fun x => bnd (evEs C r []) fun xs => ret (x :: xs)) hv
      rw [hd]
      unfold bnd
      rcases hnd_ev (C := C) (st := st) h2 with ⟨ds, e2⟩ | e2
      · rw [e2]
        exact .inl ⟨_, rfl⟩
      · rw [e2]
        exact .inr rfl
    cases e <;> first | (simp [mtX] at h; done) | skip
    · rename_i k
      cases k <;> first | (simp [mtX] at h; done) | skip
      cases x <;> first | (simp [mtX] at h; done) | skip
      rename_i v kk pos
      cases v <;> first | (simp [mtX] at h; done) | skip
      simp only [mtX, Bool.and_eq_true, decide_eq_true_eq] at h
      exact tail _ rfl h.2
    · rename_i f
      cases x <;> first | (simp [mtX] at h; done) | skip
      rename_i b g pos
      cases b <;> first | (simp [mtX] at h; done) | skip
      simp only [mtX, Bool.and_eq_true, decide_eq_true_eq] at h
      have nope : evE C (.xf f) [] st = .no → (∃ ds, evEs C (.cons (.xf f) r) [] st = .ok ds st) ∨ evEs C (.cons (.xf f) r) [] st = .no := fun e1 => by
        refine .inr ?_
        show bnd (evE C (.xf f) []) _ st = .no
        unfold bnd
        rw [e1]
      cases hc : C.cur with
      | none => exact nope (by simp only [evE, hc]; rfl)
      | some x0 =>
        cases hk : lkF x0.fs x0.xs f with
        | none => exact nope (by simp only [evE, hc, hk]; rfl)
        | some v => exact tail v (by simp only [evE, hc, hk]; rfl) h.2
/-- .. and its values are read off the exception -/
theorem hnd_of {C : Cx'} {K : PySem.W.Frag} {mg : Str → Option Value} {FF : List (Addr × HO)} {H : Hp} {W : Vw} {μ : List Addr} {st : Sto} {σ : L2.St} {n : Str} {i : Nat} {a A aa : Addr} {x : Ex} {fs : List (Str × V)} {Q : List V → Hp → Prop} (S : SA K mg FF H W μ st) (hs : σ[i]? = some (some (.ref a)))
    (cur : C.cur = some x) (hg : W.G aa = some (.xd fs)) (hl : ∀ f d, lkF x.fs x.xs f = some d → ∃ v, fs.lookup f = some v ∧ Rp K mg W d v) (hno : ∀ f d, lkF x.fs x.xs f = some d → PySem.W.findIn K (.ref A) f = some none) :
    ∀ {es : Es} {xs : List Expr} {ds : List Ev.D}, mtX n es xs = true → evEs C es [] st = .ok ds st → (∀ vs, Rps K mg W ds vs → vs.length = xs.length → Q vs H) → tHnd K i a (.ref A) (some aa) A es σ H Q
  | .nil, xs, ds, h, e, q => by
    cases xs with
    | nil =>
      cases e
      exact q [] Rps.nil rfl
    | cons _ _ => simp [mtX] at h
  | .cons e r, [], ds, h, _, _ => by cases e <;> first | (simp [mtX] at h; done) | (rename_i k; cases k <;> simp [mtX] at h)
  | .cons e r, y :: xs, ds, h, ev, q => by
    obtain ⟨d0, s1, e1, ev⟩ := bnd_inv (f := fun x => bnd (evEs C r []) fun xs => ret (x :: xs)) ev
    cases e <;> first | (simp [mtX] at h; done) | skip
    · rename_i k
      cases k <;> first | (simp [mtX] at h; done) | skip
      cases y <;> first | (simp [mtX] at h; done) | skip
      rename_i v kk pos
      cases v <;> first | (simp [mtX] at h; done) | skip
      simp only [mtX, Bool.and_eq_true, decide_eq_true_eq] at h
      cases e1
      obtain ⟨dr, s2, e2, e3⟩ := bnd_inv ev
      cases e3
      exact hnd_of (Q := fun xs H2 => Q (_ :: xs) H2) S hs cur hg hl hno h.2 e2 fun vs rv lv => q _ (Rps.cons (by simp only [Cst.d, Rp]) rv) (by simp [lv])
    · rename_i f
      cases y <;> first | (simp [mtX] at h; done) | skip
      rename_i b g pos
      cases b <;> first | (simp [mtX] at h; done) | skip
      simp only [mtX, Bool.and_eq_true, decide_eq_true_eq] at h
      simp only [evE, cur] at e1
      cases e3 : lkF x.fs x.xs f with
      | none => rw [e3] at e1; cases e1
      | some d1 =>
        rw [e3] at e1
        cases e1
        obtain ⟨dr, s2, e2, e4⟩ := bnd_inv ev
        cases e4
        obtain ⟨v, hv, rv⟩ := hl f _ e3
        exact ⟨hno f _ e3, .ref a, hs, rfl, rfl, aa, fs, v, rfl, S.sub _ _ hg, hv, hnd_of (Q := fun xs H2 => Q (v :: xs) H2) S hs cur hg hl hno h.2 e2 fun vs rvs lv => q _ (Rps.cons rv rvs) (by simp [lv])⟩
section
variable {C : Cx'} {m : MC} {X : Cx} {WE : WX} {k : Nat} {fo : FO}
/-- a clause's reading -/
def tRow (K : PySem.W.Frag) (i : Nat) (A : Addr) (es : Es) (a : Addr) (cls : Value) (d : Option Addr) : TS := fun D σ H => i < σ.length → tRet (tTup (tHnd K i a cls d A es)) D σ H
theorem lkF_mem {x : Str} {d : Ev.D} : ∀ {fs : List Str} {ds : List Ev.D}, lkF fs ds x = some d → x ∈ fs
  | [], _, h => by simp [lkF] at h
  | _ :: _, [], h => by simp [lkF] at h
  | f :: fs, e :: ds, h => by
    simp only [lkF] at h
    split at h
    · rename_i z
      rw [← z]
      exact List.mem_cons_self
    · exact List.mem_cons_of_mem _ (lkF_mem h)
theorem hs_ok (c : CtxOk C m X WE k) (q : StmOk m X fo) {i : Nat} {n : Str} (hi : m.N[i]? = some n) (loc : m.sc.names.lookup n = some .local) (u1 : (n == ("__debug__" : Str)) = false) (u2 : (n == ("__classdict__" : Str)) = false) :
    ∀ {hs : Hs} {hds : List ExceptHandler}, mtHs m n hs hds = true → ∃ l, HsOk X n hds l ∧ ∀ (x : Ex) (st : Sto) (D : Ends) (W : Vw) (μ : List Addr), C.exs x.c = some x.fs → PtF X.K X.mg WE fo W μ (evHs C hs x st) D →
      ∀ FF' σ' H' W' μ' cls dd, fo FF' W' → SA X.K X.mg FF' H' W' μ' st → Ex2 W μ W' μ' → ExR X.K X.mg W' x cls dd → i < σ'.length → wHs X.K (fun cls dd σ H => WE cls dd σ H) D i l cls dd σ' H'
  | .nil, [], _ => ⟨[], .nil, fun x st D W μ _ p FF' σ' H' W' μ' cls dd F S x' r _ => p FF' σ' H' W' μ' cls dd F S x' r⟩
  | .nil, _ :: _, h => by simp [mtHs] at h
  | .cons cn e r, [], h => by cases e <;> simp [mtHs] at h
  | .cons cn e r, hd :: hds, h => by
    cases e <;> first | (simp [mtHs] at h; done) | skip
    rename_i es
    unfold mtHs at h
    split at h
    · rename_i e1 e2
      cases e1
    · rename_i cn' es' r' x np y xs kk tp rp hp hds' e1 e2
      cases e1
      cases e2
      simp only [Bool.and_eq_true, decide_eq_true_eq] at h
      obtain ⟨⟨⟨⟨⟨h1, h2⟩, rfl⟩, h3⟩, h4⟩, h5⟩ := h
      obtain ⟨e1, g1, g2, _⟩ := c.gl h1
      subst e1
      have hmem : cn ∈ m.exn := by simpa using h2
      obtain ⟨fs, hfs, ⟨A, fI, fd, ps, hA, oe, xf, hno, _⟩⟩ := c.exc cn hmem
      obtain ⟨l, hl, hq⟩ := hs_ok c q hi loc u1 u2 h5
      refine ⟨(.ref A, tRow X.K i A es) :: l, .cons ⟨g1, g2, .inl hA⟩ (fun a oe cls d pl hz hf => ?_) hl, ?_⟩
      · have ha := pa_hnd (a := a) (i := i) (pl := pl) xf (by rw [c.hN]; exact hi) (by rw [c.hsc]; exact loc) u1 u2 hz hf h3
        have hp := pss_one (ps_ret (pos := rp) (pe_tup (x1 := kk) (pos := tp) ha))
        refine ⟨fun pins s σ H D I w => hp.run pins s σ H D I (w ?_)⟩
        have := I.len
        rw [this]
        exact (List.getElem?_eq_some_iff.mp (show X.N[i]? = some y by rw [c.hN]; exact hi)).1
      · intro x st D W μ hx p FF' σ' H' W' μ' cls dd F S x' r hlen
        obtain ⟨Cx, aa, xfs, rfl, hmx, rfl, hG, hlk⟩ := id r
        refine ⟨_, c.exm x.c cn (by rw [hx]; rfl) hmem Cx A hmx hA, fun hb a na _ => ?_, fun hb => ?_⟩
        · have hb := of_decide_eq_true hb
          have eA : A = Cx := by
            rw [← hb, hmx] at hA
            cases hA
            rfl
          subst eA
          have p2 : PtF X.K X.mg WE fo W μ (bnd (evE { C with cur := some x } (.tup es) []) (fun d => ret (.rt d)) st) D := by
            have p' := p
            simp only [evHs] at p'
            rw [if_pos hb] at p'
            exact p'
          have p3 := PtF.mono x' p2
          have e0 : evE { C with cur := some x } (.tup es) [] = bnd (evEs { C with cur := some x } es []) fun xs => bnd (frzDs xs) fun xs => ret (.tup xs) := rfl
          rw [e0, bnd_bnd] at p3
          rcases hnd_ev (C := { C with cur := some x }) (st := st) h3 with ⟨ds, e1⟩ | e1
          · rw [bnd_ok e1] at p3
            have hxf : x.fs = fs := by
              rw [hb, hfs] at hx
              exact (Option.some.inj hx).symm
            refine hnd_of (C := { C with cur := some x }) (n := y) (xs := xs) (x := x) (aa := aa) (fs := xfs) S (List.getElem?_set_self hlen) rfl hG hlk (fun f d hf => hno f ?_) h3 e1 fun vs rv lv => ⟨by rw [lv]; exact Nat.le_trans h4 (Nat.le_trans (by decide) line1m), fun pT hpT => ?_⟩
            · rw [← hxf]
              exact lkF_mem hf
            · rw [bnd_bnd] at p3
              obtain ⟨ds', st', W2, F2, S2, x2, rp2, p4⟩ := ptF_frzs q.fm F S rv.as p3
              have le := LeW.put (o := .tup vs) (S2.gnone hpT)
              refine p4 FF' σ' _ _ _ (q.fm _ _ _ le F2) (S2.put hpT) ⟨le, [], by simp⟩ _ (Rp.a ?_)
              simp only [Rp]
              exact ⟨_, vs, rfl, SqT.of upd_same, rp2.mono le⟩
          · have : bnd (evEs { C with cur := some x } es []) (fun a => bnd (bnd (frzDs a) fun xs => ret (Ev.D.tup xs)) fun d => ret (Fl.rt d)) st = .no := by
              unfold bnd
              rw [e1]
            rw [this] at p3
            exact False.elim p3
        · have hb := of_decide_eq_false hb
          refine hq x st D W μ hx ?_ FF' σ' H' W' μ' _ _ F S x' r hlen
          have p' := p
          simp only [evHs] at p'
          rw [if_neg hb] at p'
          exact p'
    · cases h
theorem s_try (c : CtxOk C m X WE k) (q : StmOk m X fo) {i : Nat} {b : Ss} {hs : Hs} {p : List Stmt} {hds : List ExceptHandler} {pos : Pos} (h : mtS m (.try_ i b hs) (.Try p hds [] [] pos) = true)
    (hb : ∀ (W : WX) (pl : List (Addr × Obj)) (xe : Value → Shared → Prop), CtxOk C m (X.tr pl xe) W k → StmOk m (X.tr pl xe) fo → PSs (X.tr pl xe) p (RdSs C (X.tr pl xe) W fo b)) : PS X (.Try p hds [] [] pos) (RdS C X WE fo (.try_ i b hs)) := by
  simp only [mtS] at h
  split at h
  · rename_i n hi
    simp only [Bool.and_eq_true, decide_eq_true_eq, Bool.not_eq_true'] at h
    obtain ⟨⟨⟨⟨loc, hu⟩, h1⟩, h2⟩, h3⟩ := h
    unfold undB at hu
    simp only [Bool.and_eq_true, Bool.not_eq_true'] at hu
    obtain ⟨⟨u1, u2⟩, _⟩ := hu
    obtain ⟨l, hl, hq⟩ := hs_ok c q hi loc u1 u2 h2
    cases hds with
    | nil => cases h3
    | cons h0 hr =>
      refine (ps_trys (i := i) q.stk q.fr (c.hN ▸ c.nd) (by rw [c.hN]; exact hi) (by rw [kindOf_sc c]; exact loc) c.tk (tb := fun W => RdSs C X W fo b) (fun W pl xe tk po => ?_) hl).imp ?_
      · exact hb W pl xe ⟨c.hN, c.nd, c.hsc, c.calm, c.room, tk, c.tl, c.con, c.isa, c.cns, c.bn, c.gcd, c.fns, c.fnc, c.clo, c.clf, fun h => ⟨(c.top h).inv, (c.top h).get, (c.top h).fnT, (c.top h).sj, (c.top h).mkC⟩, c.k2, c.exc, c.exm⟩ ⟨q.kind, po, q.ts, q.fm, q.stk, q.fr⟩
      · rintro D σ H ⟨FF, env, st, W, μ, F, S, E, p⟩
        refine ⟨FF, env, st, W, μ, F, S, E, ?_⟩
        have p' : PtF X.K X.mg WE fo W μ (match evSs C b env st with
          | .ok fl s' => .ok fl s'
          | .exc x s' => if decide (C.exs x.c = some x.fs) then evHs C hs x s' else .no
          | .no => .no) D := p
        cases e : evSs C b env st with
        | ok fl s' =>
          rw [e] at p'
          exact p'
        | no =>
          rw [e] at p'
          exact False.elim p'
        | exc x s' =>
          rw [e] at p'
          dsimp only at p'
          split at p'
          · rename_i hx
            intro FF' σ' H' W' μ' cls dd F' S' x' r hlen
            refine hq x s' D W μ (of_decide_eq_true hx) p' FF' σ' H' W' μ' cls dd F' S' x' r ?_
            rw [hlen, c.hN]
            exact (List.getElem?_eq_some_iff.mp hi).1
          · exact False.elim p'
  · cases h
end
end Ev
end
section
set_option Elab.async false
set_option linter.all false
set_option maxRecDepth 100000
set_option maxHeartbeats 4000003
namespace Ev
open PySem PySem.Spec PyProof.Rows L2
variable [Gh]
/-- what is told of the table of code objects -/
def TblR (G : Hp) (q : Str) (ps : Array Value) : Prop := TriplesOk ps.toList ∧ ∀ (pos : Pos) (cv : Value), codeAmong pos ps.toList = some cv → ∃ c, cv = .ref c ∧ G c = some (LamX.CodeO c q) ∧ ∀ i a, Gh.S i = some a → a ≠ c
/-- the frame that makes closures: its table at P -/
def foT (P : Addr) (q : Str) : FO := fun FF W => ∃ ps, FF = [(P, .tbl ps)] ∧ TblR W.G q ps
theorem foT_mono {P : Addr} {q : Str} : ∀ FF W W', LeW W W' → foT P q FF W → foT P q FF W' := fun FF W W' le ⟨ps, e, t, h⟩ => ⟨ps, e, t, fun pos cv hc => (h pos cv hc).elim fun c z => ⟨c, z.1, le.g _ _ z.2.1, z.2.2⟩⟩
def tLam (P : Addr) (q : Str) (l : Nat) : TE := fun σ H Q => ∃ ps, H P = some (.tbl ps) ∧ TblR H q ps ∧ ∀ f o c' H1 ps', Gh.P l f o c' (LamX.CodeO c' q) → (∀ i a, Gh.S i = some a → a ≠ f ∧ a ≠ c') → H1 f = none → TriplesOk ps'.toList →
  (∀ pos cv, codeAmong pos ps'.toList = some cv → codeAmong pos ps.toList = some cv ∨ cv = .ref c') → ((ps' = ps ∧ H1 = H ∧ ∃ pos, codeAmong pos ps.toList = some (.ref c')) ∨ (H c' = none ∧ H1 = upd (upd H P (.tbl ps')) c' (LamX.CodeO c' q))) → Q (.ref f) (upd H1 f o)
section
variable {C : Cx'} {m : MC} {X : Cx} {WE : WX} {k : Nat}
theorem pe_lam (c : CtxOk C m X WE k) (T : TopOk m X) {P cc : Addr} {l : Nat} {par : Arguments} {b : Expr} {sc : Scope} {pos : Pos} (TB : LamX.TabB X.base X.mg cc P) (hcode : X.env.code = .ref cc) (h1 : noParB par = true) (h2 : lamB m.sc sc = true) (h3 : mtL m l b sc = true) :
    PE X (.Lambda par b sc pos) (tLam P (X.env.qual ++ "<lambda>") l) := by
  refine ⟨fun pins s σ H Q I ⟨ps, hP, ⟨ht, ha⟩, h⟩ => PySem.W.kla_eval ?_ ?_⟩
  · unfold noParB at h1
    split at h1
    · rfl
    · cases h1
  · have hfree : ∀ y ∈ sc.names, y.2 = .free → ∃ c, X.env.cells.lookup y.1 = some c := fun y hy e => by
      unfold lamB at h2
      simp only [Bool.and_eq_true, List.all_eq_true] at h2
      have := h2.2 y hy
      simp only [Bool.and_eq_true, Bool.or_eq_true, Bool.not_eq_true', decide_eq_true_eq, decide_eq_false_iff_not] at this
      rcases this.2 with z | z
      · exact absurd e z
      · exact I.ok.has _ (.inl (by unfold Env.kindOf; rw [c.hsc]; exact z))
    have bP : s.heap.BuiltinsAt X.mg P := TB.bm.keeps I.bk
    have hPh : s.heap.get? P = some { cls := .none, data := .fields ps } := I.hok P _ hP
    have avoid : ∀ {x : Addr}, s.heap.objs.size ≤ x → ∀ i a, Gh.S i = some a → a ≠ x := fun {x} hx i a hS e => by
      obtain ⟨y, _, hy⟩ := T.inv i a hS
      obtain ⟨v, hv⟩ := I.cell y a hy
      exact absurd (Nat.lt_of_lt_of_le hv.lt hx) (by rw [e]; exact Nat.lt_irrefl _)
    cases hc : codeAmong pos ps.toList with
    | none =>
      refine PySem.W.kla_makeFunction (mg := X.mg) (c := cc) (P := P) (ps := ps) (closure_ok hfree) I.ok.glob (I.mod.glob.keeps I.bk) hcode (TB.code.keeps I.bk) hPh ht hc TB.gP bP fun c' ctv h' tk hx hge hlt hrec htb => ?_
      obtain ⟨c2, oc, vs, t, e2, hoc, hd, hv⟩ := hrec
      cases e2
      have I1 := LamX.inv_table (t' := tk) (more := #[rawInt pos.line, rawInt pos.col, .ref c']) (h' := h') I hP hx htb hge ⟨oc, vs, t, hoc, hd, hv⟩
      have hsz : s.heap.objs.size ≤ h'.objs.size := Nat.le_trans hge (Nat.le_of_lt hlt)
      have nC : H c' = none := I.hok.fresh hge
      have hget : (h'.push (PySem.W.kla_obj "<lambda>" (X.env.qual ++ "<lambda>") par b sc (cloFrom X.env.cells sc.names []) ((X.mg "__name__").getD .none) c' ctv)).get? h'.objs.size = some (PySem.W.kla_obj "<lambda>" (X.env.qual ++ "<lambda>") par b sc (cloFrom X.env.cells sc.names []) ((X.mg "__name__").getD .none) c' ctv) := Heap.get?_push_size _ rfl
      have I2 := I1.laid (t' := tk) (a := h'.objs.size) (h' := h'.push (PySem.W.kla_obj "<lambda>" (X.env.qual ++ "<lambda>") par b sc (cloFrom X.env.cells sc.names []) ((X.mg "__name__").getD .none) c' ctv)) (fun b o e => Heap.get?_push_of_some _ e) (Nat.le_refl _) (cell_ok hget)
      have eL : (ps ++ #[rawInt pos.line, rawInt pos.col, .ref c']).toList = ps.toList ++ [rawInt pos.line, rawInt pos.col, .ref c'] := by simp
      refine ⟨.ref h'.objs.size, _, I2, rfl, h h'.objs.size _ c' _ (ps ++ #[rawInt pos.line, rawInt pos.col, .ref c']) (T.mkC l _ par b sc _ c' ctv h1 h2 h3) (fun i a hS => ⟨avoid hsz i a hS, avoid hge i a hS⟩) ?_ (by rw [eL]; exact PySem.TriplesOk_snoc _ _ _ _ ht) (fun p cv hcv => ?_) (.inr ⟨nC, rfl⟩)⟩
      · exact I1.hok.fresh (Nat.le_refl _)
      · rw [eL] at hcv
        exact LamX.among_app (pos := pos) _ ht hcv
    | some cv =>
      obtain ⟨c', e, hco, hav⟩ := ha pos cv hc
      subst e
      refine PySem.W.kla_makeFunctionHit (mg := X.mg) (c := cc) (P := P) (ps := ps) (closure_ok hfree) I.ok.glob (I.mod.glob.keeps I.bk) hcode (TB.code.keeps I.bk) hPh ht hc bP fun ctv h' tk hx hsz => ?_
      have hget : (h'.push (PySem.W.kla_obj "<lambda>" (X.env.qual ++ "<lambda>") par b sc (cloFrom X.env.cells sc.names []) ((X.mg "__name__").getD .none) c' ctv)).get? h'.objs.size = some (PySem.W.kla_obj "<lambda>" (X.env.qual ++ "<lambda>") par b sc (cloFrom X.env.cells sc.names []) ((X.mg "__name__").getD .none) c' ctv) := Heap.get?_push_size _ rfl
      have I2 := I.laid (t' := tk) (a := h'.objs.size) (h' := h'.push (PySem.W.kla_obj "<lambda>" (X.env.qual ++ "<lambda>") par b sc (cloFrom X.env.cells sc.names []) ((X.mg "__name__").getD .none) c' ctv)) (fun b o e => Heap.get?_push_of_some _ (hx b o e)) hsz (cell_ok hget)
      exact ⟨.ref h'.objs.size, _, I2, rfl, h h'.objs.size _ c' _ ps (T.mkC l _ par b sc _ c' ctv h1 h2 h3) (fun i a hS => ⟨avoid hsz i a hS, hav i a hS⟩) (I.hok.fresh hsz) ht (fun p cv hcv => .inl hcv) (.inl ⟨rfl, rfl, pos, hc⟩)⟩
/-- behind a closure's making -/
theorem lam_sa {FF : List (Addr × HO)} {H : Hp} {W : Vw} {μ : List Addr} {st : Sto} {P : Addr} {q : Str} {l : Nat} (F : foT P q FF W) (S : SA X.K X.mg FF H W μ st) {Q : VK}
    (h : ∀ f FF' H' W', foT P q FF' W' → SA X.K X.mg FF' H' W' μ st → Ex2 W μ W' μ → Rp X.K X.mg W' (.clo l) (.ref f) → Q (.ref f) H') {σ : L2.St} : tLam P q l σ H Q := by
  obtain ⟨ps, rfl, ht, ha⟩ := F
  obtain ⟨hP, gP, mP⟩ := S.ff (P, .tbl ps) List.mem_cons_self
  refine ⟨ps, hP, ⟨ht, fun pos cv hc => (ha pos cv hc).elim fun c z => ⟨c, z.1, S.sub _ _ z.2.1, z.2.2⟩⟩, fun f o c' H1 ps' hp av nf ht' ham hcase => ?_⟩
  rcases hcase with ⟨rfl, rfl, pos, hc⟩ | ⟨nc, rfl⟩
  · obtain ⟨c, ec, hG, _⟩ := ha pos _ hc
    cases ec
    have le := LeW.put (o := o) (S.gnone nf)
    refine h f _ _ _ (foT_mono _ _ _ le ⟨ps', rfl, ht, ha⟩) (S.put nf) ⟨le, [], by simp⟩ ?_
    simp only [Rp]
    exact ⟨f, o, c', _, rfl, hp, upd_same, le.g _ _ hG, av⟩
  · have ne : c' ≠ P := fun e => by
      rw [e, hP] at nc
      cases nc
    have S1 : SA X.K X.mg [(P, .tbl ps')] (upd H P (.tbl ps')) W μ st := S.ffw fun q hq => nomatch hq
    have nc1 : upd H P (.tbl ps') c' = none := by rw [upd_ne ne]; exact nc
    have le1 := LeW.put (o := LamX.CodeO c' q) (S1.gnone nc1)
    have S2 := S1.put (o := LamX.CodeO c' q) nc1
    have le2 := LeW.put (o := o) (S2.gnone nf)
    refine h f _ _ _ ⟨ps', rfl, ht', fun p cv hcv => ?_⟩ (S2.put nf) ⟨le1.trans le2, [], by simp⟩ ?_
    · rcases ham p cv hcv with hcv | rfl
      · obtain ⟨c, ec, hG, hav⟩ := ha p cv hcv
        exact ⟨c, ec, (le1.trans le2).g _ _ hG, hav⟩
      · exact ⟨c', rfl, le2.g _ _ upd_same, fun i a hS => (av i a hS).2⟩
    · simp only [Rp]
      exact ⟨f, o, c', _, rfl, hp, upd_same, le2.g _ _ upd_same, av⟩
end
section
variable {C : Cx'} {m : MC} {X : Cx} {WE : WX} {k : Nat} {P cc : Addr}
theorem s_lamN (c : CtxOk C m X WE k) (T : TopOk m X) (q : StmOk m X (foT P (X.env.qual ++ "<lambda>"))) (TB : LamX.TabB X.base X.mg cc P) (hcode : X.env.code = .ref cc) {i l : Nat} {e : Ev.E} {x : Str} {par : Arguments} {b y : Expr} {sc : Scope} {k1 : Nat} {p1 p2 p3 p4 pos : Pos}
    (ht : tgtB m i x = true) (h1 : noParB par = true) (h2 : lamB m.sc sc = true) (h3 : mtL m l b sc = true) (hy : nst y = true) (he : PE X y (RdE C X WE e)) :
    PS X (.Assign [.Name x p1] (.List [.Tuple [.Lambda par b sc p2, y] k1 p3] p4) pos) (RdS C X WE (foT P (X.env.qual ++ "<lambda>")) (.lamN i l e)) := by
  obtain ⟨g1, g2, g3⟩ := c.tgt ht
  refine (ps_set (c.hN ▸ c.nd) g1 g2 (pe_lst (pa_cons (pe_tup (pa_cons (pe_lam c T TB hcode h1 h2 h3) (pa_cons he pa_nil (nst_each hy _ _)) rfl)) pa_nil rfl)) rfl g3).imp ?_
  rintro D σ H ⟨FF, env, st, W, μ, F, S, E, p⟩
  unfold tAsg tLst tCons tTup
  dsimp only
  refine lam_sa (l := l) F S fun f FF1 H1 W1 F1 S1 x1 rf => ⟨FF1, env, st, W1, μ, S1, E.mono x1, (ptF_bnd (rel := relA X.K X.mg) q.fm F1 (PtF.mono x1 p)).imp ?_⟩
  rintro vy H2 ⟨d, st2, W2, μ2, F2, S2, x2, r2, p2⟩
  obtain ⟨d', st3, W3, F3, S3, x3, r3, p3⟩ := ptF_frz q.fm F2 S2 r2 p2
  refine ⟨by show 2 ≤ sizeLine; exact Nat.le_trans (by decide) line1m, fun q1 hq1 => ⟨by show 1 ≤ sizeLine; exact Nat.le_trans (by decide) line1m, fun q2 hq2 => ?_⟩⟩
  have le4 := LeW.put (o := .tup [.ref f, vy]) (S3.gnone hq1)
  have S4 := S3.put (o := .tup [.ref f, vy]) hq1
  have rt : Rp X.K X.mg (W3.put q1 (.tup [.ref f, vy])) (.tup [.clo l, d']) (.ref q1) := by
    simp only [Rp]
    exact ⟨q1, _, rfl, SqT.of upd_same, Rps.cons (((rf.mono x2.w).mono x3.w).mono le4) (Rps.cons (r3.mono le4) Rps.nil)⟩
  have S5 := S4.new (o := .lst [.ref q1]) (mo := .lst [.tup [.clo l, d']]) hq2 ⟨q2, [.ref q1], rfl, upd_same, S4.gnone hq2, Rps.cons rt Rps.nil⟩
  have x5 : Ex2 W3 μ2 (W3.put q1 (.tup [.ref f, vy])) (μ2 ++ [q2]) := ⟨le4, [q2], rfl⟩
  have p4 : PtF X.K X.mg WE (foT P (X.env.qual ++ "<lambda>")) W3 μ2 (.ok (.nx (setE env i (.mu st3.length))) (st3 ++ [.lst [.tup [.clo l, d']]])) D := p3
  exact p4 _ _ _ _ _ (q.fm _ _ _ le4 F3) S5 x5 (((((E.mono x1).mono x2).mono x3).mono x5).set ⟨q2, (by rw [← S3.len]; simp), rfl⟩)
theorem s_lamA (c : CtxOk C m X WE k) (T : TopOk m X) (q : StmOk m X (foT P (X.env.qual ++ "<lambda>"))) (TB : LamX.TabB X.base X.mg cc P) (hcode : X.env.code = .ref cc) {i l : Nat} {e : Ev.E} {x : Str} {par : Arguments} {b y : Expr} {sc : Scope} {k1 : Nat} {p1 p2 p3 ap cp pos : Pos}
    (ht : varB m i x = true) (h1 : noParB par = true) (h2 : lamB m.sc sc = true) (h3 : mtL m l b sc = true) (hy : nst y = true) (he : PE X y (RdE C X WE e)) (hl : (ap.endLine == cp.line) = true) :
    PS X (.Expr (.Call (.Attribute (.Name x p1) "append" ap) [.Tuple [.Lambda par b sc p2, y] k1 p3] [] cp) pos) (RdS C X WE (foT P (X.env.qual ++ "<lambda>")) (.lamA i l e)) := by
  obtain ⟨v1, v2, v3, v4⟩ := c.var ht
  have pt := pe_tup (x1 := k1) (pos := p3) (pa_cons (pe_lam (l := l) (pos := p2) c T TB hcode h1 h2 h3) (pa_cons he pa_nil (nst_each hy _ _)) rfl)
  have pm := pe_bm (apos := ap) (cpos := cp) PySem.F.plainAttrs_list PySem.F.slot_list_append (by first | rfl | (with_unfolding_all rfl) | (decide +kernel)) (mt_append' (X := X) (WE := WE)) (pe_var (pos := p1) v1 v2 v3 v4) (pa_cons pt pa_nil rfl) rfl rfl hl rfl rfl
  refine (ps_expr pm rfl).imp ?_
  rintro D σ H ⟨FF, env, st, W, μ, F, S, E, p⟩
  have p0 : PtF X.K X.mg WE (foT P (X.env.qual ++ "<lambda>")) W μ ((match env[i]? with
    | some (some o) => fun s => if metB .append (thD o s) then bnd (evE C e env) (fun d => bnd (frzD d) fun d => bnd (metD o .append [.tup [.clo l, d]]) fun _ => ret (Fl.nx env)) s else .no
    | _ => no) st) D := p
  cases ei : env[i]? with
  | none => rw [ei] at p0; exact False.elim p0
  | some oo =>
    cases oo with
    | none => rw [ei] at p0; exact False.elim p0
    | some o =>
      rw [ei] at p0
      dsimp only at p0
      obtain ⟨v, hv, rv⟩ := E.at_ i o ei
      refine ⟨v, hv, ?_⟩
      split at p0
      case isFalse => exact False.elim p0
      rename_i cb
      have el : ∃ ds, thD o st = .lst ds := by
        cases e : thD o st <;> rw [e] at cb <;> first | exact ⟨_, rfl⟩ | cases cb
      obtain ⟨ds, el⟩ := el
      obtain ⟨t, vs, rfl, q1, q2⟩ := lst_of S rv el
      refine ⟨.inl ⟨rfl, vs, SqL.of q1⟩, ?_⟩
      unfold tCons tTup
      dsimp only
      refine lam_sa (l := l) F S fun f FF1 H1 W1 F1 S1 x1 rf => ⟨FF1, env, st, W1, μ, S1, E.mono x1, (ptF_bnd (rel := relA X.K X.mg) q.fm F1 (PtF.mono x1 p0)).imp ?_⟩
      rintro vy H2 ⟨d, st2, W2, μ2, F2, S2, x2, r2, p2⟩
      obtain ⟨d', st3, W3, F3, S3, x3, r3, p3⟩ := ptF_frz q.fm F2 S2 r2 p2
      refine ⟨by show 2 ≤ sizeLine; exact Nat.le_trans (by decide) line1m, fun q1' hq1 => ?_⟩
      have le4 := LeW.put (o := .tup [.ref f, vy]) (S3.gnone hq1)
      have S4 := S3.put (o := .tup [.ref f, vy]) hq1
      have x4 : Ex2 W3 μ2 (W3.put q1' (.tup [.ref f, vy])) μ2 := ⟨le4, [], by simp⟩
      have rt : Rp X.K X.mg (W3.put q1' (.tup [.ref f, vy])) (.tup [.clo l, d']) (.ref q1') := by
        simp only [Rp]
        exact ⟨q1', _, rfl, SqT.of upd_same, Rps.cons (((rf.mono x2.w).mono x3.w).mono le4) (Rps.cons (r3.mono le4) Rps.nil)⟩
      refine ⟨_, σ, _, _, μ2, o, [.tup [.clo l, d']], S4, (((rv.mono x1).mono x2).mono x3).mono x4, ⟨_, _, rfl, rt.a, rfl⟩, (ptF_bnd (rel := relA X.K X.mg) q.fm (q.fm _ _ _ le4 F3) (PtF.mono x4 p3)).imp ?_⟩
      rintro u H5 ⟨_, st5, W5, μ5, F5, S5, x5, _, p5⟩
      exact ptF_nx F5 S5 (((((E.mono x1).mono x2).mono x3).mono x4).mono x5) p5
end
end Ev
end
section
set_option Elab.async false
set_option linter.all false
set_option maxRecDepth 100000
set_option maxHeartbeats 4000003
namespace Ev
open PySem PySem.Spec PyProof.Rows L2
variable [Gh]
section
variable {C : Cx'} {k : Nat} {fo : FO}
/-- where closures are made, the table is at hand -/
structure TabOk (m : MC) (X : Cx) (fo : FO) : Prop where
  t : m.top = true → ∃ cc P, LamX.TabB X.base X.mg cc P ∧ X.env.code = .ref cc ∧ fo = foT P (X.env.qual ++ "<lambda>")
mutual
theorem sndS {m : MC} {X : Cx} {WE : WX} (c : CtxOk C m X WE k) (q : StmOk m X fo) (z : TabOk m X fo) (t : S) (a : Stmt) (h : mtS m t a = true) : PS X a (RdS C X WE fo t) := by
  match t with
  | .asg tg e =>
    cases a with
    | Assign gs x pos =>
      match gs, h with
      | [g], h => exact ps_asgE c q h
      | [], h => simp [mtS] at h
      | _ :: _ :: _, h => simp [mtS] at h
    | _ => simp [mtS] at h
  | .par is es =>
    cases a with
    | Assign gs x pos =>
      match gs, h with
      | [g], h => exact ps_parE c q h
      | [], h => simp [mtS] at h
      | _ :: _ :: _, h => simp [mtS] at h
    | _ => simp [mtS] at h
  | .lamN i l e =>
    unfold mtS at h
    split at h
    · simp only [Bool.and_eq_true] at h
      obtain ⟨⟨⟨⟨⟨⟨h1, h2⟩, h3⟩, h4⟩, h5⟩, h6⟩, h7⟩ := h
      obtain ⟨cc, P, TB, hc, rfl⟩ := z.t h1
      exact s_lamN c (c.top h1) q TB hc h2 h3 h4 h5 h7 (sndE c e _ h6)
    · cases h
  | .lamA i l e =>
    unfold mtS at h
    split at h
    · simp only [Bool.and_eq_true, decide_eq_true_eq] at h
      obtain ⟨⟨⟨⟨⟨⟨⟨⟨h1, h2⟩, rfl⟩, h3⟩, h4⟩, h5⟩, h6⟩, h7⟩, h8⟩ := h
      obtain ⟨cc, P, TB, hc, rfl⟩ := z.t h1
      exact s_lamA c (c.top h1) q TB hc h2 h3 h4 h5 h7 (sndE c e _ h6) h8
    · cases h
  | .aug _ _ _ => simp [mtS] at h
  | .exp e =>
    cases a with
    | Expr x pos =>
      simp only [mtS, Bool.and_eq_true] at h
      exact s_exp c q h.2 (sndE c e x h.1)
    | _ => simp [mtS] at h
  | .rtn e =>
    cases a with
    | Return o pos =>
      cases o with
      | none => simp [mtS] at h
      | some x => exact s_rtn c q (sndE c e x (by simpa only [mtS] using h))
    | _ => simp [mtS] at h
  | .rtnN =>
    cases a with
    | Return o pos =>
      cases o with
      | none => exact s_rtnN c q
      | some x => simp [mtS] at h
    | _ => simp [mtS] at h
  | .ite tt x y =>
    cases a with
    | If g p p' pos =>
      simp only [mtS, Bool.and_eq_true] at h
      exact s_ite c q (sndT c tt g h.1.1) (sndSs c q z x p h.1.2) (sndSs c q z y p' h.2)
    | _ => simp [mtS] at h
  | .for_ tg it b =>
    cases a with
    | For g i p oe pos =>
      cases oe with
      | cons _ _ => simp [mtS] at h
      | nil =>
        simp only [mtS, Bool.and_eq_true] at h
        exact s_for c q h.1.2 (sndTg c _ tg g h.1.1.1) (sndIt c it i g h.1.1.2) (sndSs c q z b p h.2)
    | _ => simp [mtS] at h
  | .whl tt b =>
    cases a with
    | While g p oe pos =>
      cases oe with
      | cons _ _ => simp [mtS] at h
      | nil =>
        simp only [mtS, Bool.and_eq_true] at h
        exact s_whl c q (sndT c tt g h.1) (sndSs c q z b p h.2)
    | _ => simp [mtS] at h
  | .rse cn es =>
    cases a with
    | Raise o o2 pos =>
      match o, o2, h with
      | some (.Call (.Name x p) xs [] cp), none, h =>
        simp only [mtS, Bool.and_eq_true, Bool.not_eq_true'] at h
        obtain ⟨⟨⟨h1, h2⟩, h3⟩, h4⟩ := h
        obtain ⟨e, _⟩ := c.gl h1
        subst e
        exact s_rse c q h2 h1 h3 (by intro e; subst e; cases h4) (sndEs c es xs h3)
      | none, _, h => simp [mtS] at h
      | some _, some _, h => simp [mtS] at h
      | some (.Call (.Name x p) xs (_ :: _) cp), none, h => simp [mtS] at h
      | some e, none, h =>
        simp only [mtS] at h
        split at h
        · rename_i e1
          cases e1
          simp only [Bool.and_eq_true, Bool.not_eq_true'] at h
          obtain ⟨⟨⟨h1, h2⟩, h3⟩, h4⟩ := h
          obtain ⟨e, _⟩ := c.gl h1
          subst e
          exact s_rse c q h2 h1 h3 (by intro e; subst e; cases h4) (sndEs c es _ h3)
        · cases h
    | _ => simp [mtS] at h
  | .try_ i b hs =>
    cases a with
    | Try p hds oe fin pos =>
      match oe, fin, h with
      | [], [], h =>
        refine s_try c q h fun W pl xe c' q' => sndSs c' q' ⟨z.t⟩ b p ?_
        simp only [mtS] at h
        split at h
        · simp only [Bool.and_eq_true] at h
          exact h.1.1.2
        · cases h
      | _ :: _, _, h => simp [mtS] at h
      | [], _ :: _, h => simp [mtS] at h
    | _ => simp [mtS] at h
  | .pass =>
    cases a with
    | Pass pos => exact s_pass c q
    | _ => simp [mtS] at h
  | .brk =>
    cases a with
    | Break pos => exact s_brk c q
    | _ => simp [mtS] at h
  | .cont =>
    cases a with
    | Continue pos => exact s_cont c q
    | _ => simp [mtS] at h
theorem sndSs {m : MC} {X : Cx} {WE : WX} (c : CtxOk C m X WE k) (q : StmOk m X fo) (z : TabOk m X fo) (t : Ss) (a : List Stmt) (h : mtSs m t a = true) : PSs X a (RdSs C X WE fo t) := by
  match t with
  | .nil =>
    cases a with
    | nil =>
      refine pss_nil.imp ?_
      rintro D σ H ⟨FF, env, st, W, μ, F, S, E, p⟩
      exact ptF_nx F S E p
    | cons _ _ => simp [mtSs] at h
  | .cons s r =>
    cases a with
    | nil => simp [mtSs] at h
    | cons x xs =>
      simp only [mtSs, Bool.and_eq_true] at h
      refine (pss_cons (sndS c q z s x h.1) (sndSs c q z r xs h.2)).imp ?_
      rintro D σ H ⟨FF, env, st, W, μ, F, S, E, p⟩
      refine ⟨FF, env, st, W, μ, F, S, E, ?_⟩
      have p' : PtF X.K X.mg WE fo W μ (bnd (evS C s env) (fun f => match f with
        | .nx e' => evSs C r e'
        | f => ret f) st) D := p
      exact PtF.seq p'
end
end
end Ev
end
section
set_option Elab.async false
set_option linter.all false
set_option maxRecDepth 100000
set_option maxHeartbeats 4000003
namespace Ev
open PySem PySem.Spec PyProof.Rows L2
theorem zip_some : ∀ {ps : List Str} {us : List Value} {n : Str}, us.length = ps.length → n ∈ ps → ((ps.zip us).lookup n).isNone = false
  | [], _, _, _, h => nomatch h
  | p :: ps, [], _, l, _ => by simp at l
  | p :: ps, u :: us, n, l, h => by
    rw [List.zip_cons_cons, List.lookup_cons]
    by_cases e : n = p
    · subst e
      simp
    · have : (n == p) = false := by simpa using e
      rw [this]
      exact zip_some (by simpa using l) ((List.mem_cons.mp h).resolve_left e)
theorem fm_zip : ∀ {ps : List Str} {us : List Value}, us.length = ps.length → ps.Nodup → (ps.filterMap fun n => ((ps.zip us).lookup n).map (n, ·)) = ps.zip us
  | [], us, _, _ => rfl
  | p :: ps, [], l, _ => by simp at l
  | p :: ps, u :: us, l, nd => by
    obtain ⟨n1, n2⟩ := List.nodup_cons.mp nd
    rw [List.zip_cons_cons, List.filterMap_cons]
    simp only [List.lookup_cons, beq_self_eq_true, Option.map_some]
    congr 1
    rw [← fm_zip (us := us) (by simpa using l) n2]
    have key : ∀ qs : List Str, (∀ q ∈ qs, q ≠ p) → (qs.filterMap fun n => (match n == p with
      | true => some u
      | false => (ps.zip us).lookup n).map (n, ·)) = qs.filterMap fun n => ((ps.zip us).lookup n).map (n, ·) := fun qs => by
      induction qs with
      | nil => intro _; rfl
      | cons q qs ih =>
        intro h
        rw [List.filterMap_cons, List.filterMap_cons, ih fun r hr => h r (List.mem_cons_of_mem _ hr)]
        have e : (q == p) = false := by simpa using h q List.mem_cons_self
        rw [e]
    rw [fm_zip (us := us) (by simpa using l) n2]
    exact (key ps fun q hq e => n1 (e ▸ hq)).trans (fm_zip (us := us) (by simpa using l) n2)
theorem bind_plain {name qual : Str} {as : List Arg} {body : List Stmt} {scope : Scope} {kV doc pm : Value} {an : Option Addr} {cdv ct : Value} {us : List Value} (hl : us.length = as.length) (nd : (as.map (·.arg)).Nodup) :
    bindArgs (PySem.W.fnOf name qual ⟨[], as, none, [], [], none, []⟩ body scope .none kV doc pm an cdv ct) ⟨us, []⟩ = pure ((as.map (·.arg)).zip us) := by
  unfold bindArgs PySem.W.fnOf
  have h1 : ¬ (us.length > as.length) := by omega
  have h2 : (List.filter (fun n => (((as.map (·.arg)).zip us).lookup n).isNone) (List.take as.length (as.map (·.arg)))) = [] := by
    rw [List.take_of_length_le (by simp), List.filter_eq_nil_iff]
    intro a ha
    rw [zip_some (by simpa using hl) ha]
    simp
  have h3 : seqItems? (.none : Value) = pure none := rfl
  have h4 : List.filterMap ((fun n => (((as.map (·.arg)).zip us).lookup n).map fun x => (n, x)) ∘ fun x => x.arg) as = (as.map (·.arg)).zip us := by
    rw [← List.filterMap_map]
    exact fm_zip (by simpa using hl) nd
  simp [h1, h2, h3, h4]
/-- a def's text beside its term -/
structure Dn where
  name : Str
  N : List Str
  F : Fn
  params : Arguments
  body : List Stmt
  scope : Scope
def plainPar : Arguments → Bool
  | ⟨[], _, none, [], [], none, []⟩ => true
  | _ => false
def Dn.ps (d : Dn) : List Str := d.params.args.map (·.arg)
def Dn.mc (m0 : MC) (d : Dn) : MC := { m0 with N := d.N, sc := d.scope, ts := d.scope }
/-- the text is the term's -/
def Dn.okB (m0 : MC) (d : Dn) : Bool := C8.scC d.N d.ps d.scope && plainPar d.params && decide d.ps.Nodup && decide (d.F.np = d.ps.length) && decide (d.F.nl = d.N.length) && d.F.dfl.isEmpty && mtSs (d.mc m0) d.F.body d.body
variable [Gh]
/-- the module, as all its defs see it -/
structure Wld (K : PySem.W.Frag) (mg : Str → Option Value) (P : Program) (w : World) (base : Heap) (G : Gl) (m0 : MC) : Prop where
  con : ∀ x d, G.con x = some d → ∃ v u, mg x = some u ∧ RelV v u ∧ ∀ W μ, Rpa K mg W μ d v
  isa : IsaOk K mg G.isa
  cns : ∀ c ∈ m0.cns, ∃ T, mg c = some (.ref T)
  bn : ∀ b ∈ bNs, mg b = none
  gcd : m0.gcd = true → mg "gcd" = some (.builtin "math.gcd")
  fns : ∀ f ∈ m0.fns, ∃ a, mg f = some (.ref a) ∧ PySem.W.keepIn K (.ref a) = true
  exc : ∀ c ∈ m0.exn, ∃ fs, G.exs c = some fs ∧ ExcC K mg P w base c fs
  exm : ∀ c c', (G.exs c).isSome = true → c' ∈ m0.exn → ∀ A B, mg c = some (.ref A) → mg c' = some (.ref B) → PySem.W.exmOne K (.ref A) (.ref B) = some (decide (c = c'))
  clf : CloF
  top : m0.top = false
  fn : ∀ f F, G.fn f = some F → ∃ d : Dn, d.F = F ∧ d.okB m0 = true ∧ ∀ a, mg f = some (.ref a) → ∃ fd, FunD K d.name d.name d.params d.body d.scope [] [] a fd
section
variable {K : PySem.W.Frag} {mg : Str → Option Value} {P : Program} {w : World} {base : Heap} {G : Gl} {m0 : MC}
theorem RoomG.deeper {k : Nat} {A : Around} (r : RoomG (k + 1) A) (env : Env) : RoomG k (A.deeper env) := ⟨r.r.deeper env, by
  have := r.g
  simpa [Around.deeper, Around.under] using this⟩
/-- the context of a def's body -/
theorem Wld.ctx (Z : Wld K mg P w base G m0) {k : Nat} {kk : Nat} (hk : 2 ≤ k) (F1 : ∀ f a, mg f = some (.ref a) → FnC K mg P w base k a ((orcAt G kk).fn f)) (F2 : ∀ l, CloC K mg P w base k l ((orcAt G kk).clo l)) {N ps : List Str} {scope : Scope} (S : FnScope N ps scope)
    {qual : Str} {f : Addr} {cdv : Value} {A : Around} {outer : List Env} {s : Shared} {H : Hp} {E : XK} (hr : RoomG k (A.deeper (envOfC qual scope s.heap.objs.size f cdv))) :
    CtxOk ⟨G.con, G.isa, G.exs, orcAt G kk, G.wf, none⟩ { m0 with N := N, sc := scope, ts := scope } (cxOf (L2.CX P w) P w K mg base N qual scope f cdv A outer s H E) (fun cls dd _ H' => E cls dd H') k where
  hN := rfl
  nd := S.nd
  hsc := rfl
  calm := rfl
  room := hr
  tk := takes_of (X := cxOf (L2.CX P w) P w K mg base N qual scope f cdv A outer s H E) rfl rfl rfl rfl
  tl := fun x hx => by
    refine ⟨?_, .inl rfl⟩
    have hx' : locB scope x = true := hx
    unfold locB at hx'
    split at hx'
    · rename_i e
      exact .inl e
    · rename_i e
      exact .inr e
    · cases hx'
  con := Z.con
  isa := Z.isa
  cns := Z.cns
  bn := Z.bn
  gcd := Z.gcd
  fns := Z.fns
  fnc := F1
  clo := F2
  clf := Z.clf
  top := fun h => by
    have h' : m0.top = true := h
    rw [Z.top] at h'
    cases h'
  k2 := hk
  exc := Z.exc
  exm := Z.exm
theorem stm_cx {N ps : List Str} {scope : Scope} (S : FnScope N ps scope) {qual : Str} {f : Addr} {cdv : Value} {A : Around} {outer : List Env} {s : Shared} {H : Hp} {E : XK} {fo : FO} (fm : ∀ FF W W', LeW W W' → fo FF W → fo FF W') :
    StmOk { m0 with N := N, sc := scope, ts := scope } (cxOf (L2.CX P w) P w K mg base N qual scope f cdv A outer s H E) fo where
  kind := S.kind
  own := passes_of (X := cxOf (L2.CX P w) P w K mg base N qual scope f cdv A outer s H E) rfl
  ts := rfl
  fm := fm
  stk := rfl
  fr := rfl
theorem start_re {W : Vw} {μ : List Addr} {ds : List D} {vs : List V} {N : List Str} {nl : Nat} (hn : nl = N.length) (r : Rpas K mg W μ ds vs) : RE K mg W μ (L2.start N vs) (ds.map some ++ List.replicate (nl - ds.length) none) := by
  have el := r.length
  have at_ : ∀ {ds : List D} {vs : List V} {i : Nat} {d : D}, Rpas K mg W μ ds vs → ds[i]? = some d → ∃ v, vs[i]? = some v ∧ Rpa K mg W μ d v := by
    intro ds
    induction ds with
    | nil => intro vs i d _ h; simp at h
    | cons x xs ih =>
      intro vs i d h e
      obtain ⟨v, r, rfl, h1, h2⟩ := h
      cases i with
      | zero =>
        simp at e
        subst e
        exact ⟨v, rfl, h1⟩
      | succ i =>
        obtain ⟨u, h3, h4⟩ := ih h2 (by simpa using e)
        exact ⟨u, by simpa using h3, h4⟩
  refine ⟨?_, fun i d e => ?_⟩
  · unfold L2.start
    simp only [List.length_append, List.length_map, List.length_replicate, el, hn]
    exact Nat.le_refl _
  · by_cases hi : i < ds.length
    · rw [List.getElem?_append_left (by simpa using hi), List.getElem?_map] at e
      obtain ⟨d', hd, e⟩ := Option.map_eq_some_iff.mp e
      cases e
      obtain ⟨v, hv, rv⟩ := at_ r hd
      refine ⟨v, ?_, rv⟩
      unfold L2.start
      rw [List.getElem?_append_left (by rw [List.length_map, ← el]; exact hi), List.getElem?_map, hv]
      rfl
    · rw [List.getElem?_append_right (by simpa using Nat.le_of_not_lt hi)] at e
      rw [List.getElem?_replicate] at e
      split at e <;> cases e
/-- what is left of the store behind a call -/
theorem leave_sa {FF : List (Addr × HO)} {H' : Hp} {W W' : Vw} {μ μ' : List Addr} {st' : Sto} {n : Nat} (hn : μ.length = n) (S : SA K mg FF H' W' μ' st') (x : Ex2 W μ W' μ') : SA K mg FF H' W' (μ'.take n) (st'.take n) ∧ Ex2 W μ W' (μ'.take n) := by
  obtain ⟨xw, r, xr⟩ := x
  have e : μ'.take n = μ := by
    rw [xr, ← hn]
    simp
  exact ⟨S.cut n, xw, [], by rw [e]; simp⟩
theorem Rpa.take {W' : Vw} {μ' : List Addr} {d : D} {v : V} {n : Nat} (r : Rpa K mg W' μ' d v) (h : ∀ k, d = .mu k → k < n) : Rpa K mg W' (μ'.take n) d v := by
  cases d with
  | mu k =>
    obtain ⟨a, h1, h2⟩ := r
    exact ⟨a, by rw [List.getElem?_take_of_lt (h k rfl)]; exact h1, h2⟩
  | _ => exact r
theorem runB_ptf {X : Cx'} {F : Fn} {ys : List D} {FF : List (Addr × HO)} {H : Hp} {W : Vw} {μ : List Addr} {st : Sto} {Q : VK} {E : XK} (S : SA K mg FF H W μ st) (p : PtX K mg (relA K mg) FF W μ (runB X F ys st) Q E) :
    PtF K mg (fun cls dd _ H' => E cls dd H') (fun FF' _ => FF' = FF) W μ (evSs X F.body (ys.map some ++ List.replicate (F.nl - ys.length) none) st) { nx := fun _ H' => Q .non H', rt := Q } := by
  unfold runB at p
  cases e : evSs X F.body (ys.map some ++ List.replicate (F.nl - ys.length) none) st with
  | no =>
    rw [e] at p
    exact p
  | exc x st' =>
    rw [e] at p
    intro FF' σ' H' W' μ' cls dd hf S' x' r
    subst hf
    obtain ⟨S2, x2⟩ := leave_sa S.len S' x'
    exact p H' W' _ cls dd S2 x2 r
  | ok f st' =>
    rw [e] at p
    intro FF' σ' H' W' μ' hf S' x'
    subst hf
    cases f with
    | bk e' => exact False.elim p
    | ct e' => exact False.elim p
    | nx e' =>
      intro _
      obtain ⟨S2, x2⟩ := leave_sa S.len S' x'
      exact p .non H' W' _ S2 x2 rfl
    | rt d =>
      intro v rv
      have p' : PtX K mg (relA K mg) FF' W μ (leave st.length d st') Q E := p
      have gen : (∀ k, d = .mu k → k < st.length) → leave st.length d st' = .ok d (st'.take st.length) → Q v H' := fun h1 h2 => by
        rw [h2] at p'
        obtain ⟨S2, x2⟩ := leave_sa S.len S' x'
        exact p' v H' W' _ S2 x2 (rv.take h1)
      cases d with
      | mu k =>
        by_cases hk : k < st.length
        · exact gen (fun j ej => by cases ej; exact hk) (by simp [leave, hk])
        · have h2 : leave st.length (.mu k) st' = .ok (.mu k) st' := by simp [leave, hk]
          rw [h2] at p'
          exact p' v H' W' μ' S' x' rv
      | clo l => exact False.elim p'
      | _ => exact gen (fun j ej => by cases ej) rfl
theorem def_ok (Z : Wld K mg P w base G m0) {k : Nat} (F1 : ∀ f a, mg f = some (.ref a) → FnC K mg P w base (k + 3) a ((orcAt G k).fn f)) (F2 : ∀ l, CloC K mg P w base (k + 3) l ((orcAt G k).clo l)) {f : Str} {F : Fn} (hf : G.fn f = some F) {a : Addr} (ha : mg f = some (.ref a)) :
    FnC K mg P w base (k + 4) a ((orcAt G (k + 1)).fn f) := by
  obtain ⟨d, rfl, okd, hd⟩ := Z.fn f F hf
  obtain ⟨fd, FD⟩ := hd a ha
  unfold Dn.okB at okd
  simp only [Bool.and_eq_true, decide_eq_true_eq] at okd
  obtain ⟨⟨⟨⟨⟨⟨o1, o2⟩, o3⟩, o4⟩, o5⟩, o6⟩, o7⟩ := okd
  have SC := C8.fnScope_by o1
  have hdf : d.F.dfl = [] := by simpa using o6
  obtain ⟨oc, od, dV, kV, doc, pm, an, cdv, ct, osl, rfl, lk, hcd, hD, hK⟩ := FD.ex
  have hdV : dV = .none := by
    rcases hD with ⟨_, h⟩ | ⟨h, _⟩
    · exact h
    · exact absurd rfl h
  subst hdV
  rintro A outer s H us vs Q E hr e0 r ⟨FF, st, W, μ, ds, S, rp, p⟩
  have eo : (orcAt G (k + 1)).fn f ds = (match fillA d.F.np d.F.dfl ds with
      | some ys => runB ⟨G.con, G.isa, G.exs, orcAt G k, G.wf, none⟩ d.F ys
      | none => no) := by
    simp only [orcAt, hf]
    try rfl
  rw [eo] at p
  have hl : ds.length = d.F.np ∧ fillA d.F.np d.F.dfl ds = some ds := by
    by_cases h : ds.length ≤ d.F.np ∧ d.F.np ≤ ds.length + d.F.dfl.length
    · have e1 : fillA d.F.np d.F.dfl ds = some (ds ++ d.F.dfl.drop (ds.length + d.F.dfl.length - d.F.np)) := if_pos h
      rw [e1]
      rw [hdf] at h ⊢
      exact ⟨by have := h.1; have := h.2; simp at this; omega, by simp⟩
    · have e1 : fillA d.F.np d.F.dfl ds = none := if_neg h
      rw [e1] at p
      exact False.elim p
  rw [hl.2] at p
  have hv : vs.length = d.ps.length := by rw [← rp.length, hl.1, o4]
  have hu : us.length = d.ps.length := by rw [← r.length, hv]
  have hpar : d.params = ⟨[], d.params.args, none, [], [], none, []⟩ := by
    cases hp : d.params with
    | mk a b c d' e f g =>
      rw [hp] at o2
      cases a <;> cases c <;> cases d' <;> cases e <;> cases f <;> cases g <;> first | rfl | cases o2
  have hb : BindsTo s (PySem.W.fnOf d.name d.name d.params d.body d.scope .none kV doc pm an cdv ct) ⟨us, []⟩ (d.ps.zip us) := by
    refine .of_eq ?_
    have := bind_plain (name := d.name) (qual := d.name) (body := d.body) (scope := d.scope) (kV := kV) (doc := doc) (pm := pm) (an := an) (cdv := cdv) (ct := ct) (as := d.params.args) (us := us) (by rw [hu]; simp [Dn.ps]) o3
    rw [← hpar] at this
    exact this
  refine LamX.run_ofS (N := d.N) (ps := d.ps) (us := us) (vs := vs) lk hcd SC hr.r e0 hb r hv fun hr' => ?_
  have hg : RoomG (k + 3) (A.deeper (envOfC d.name d.scope s.heap.objs.size a cdv)) := hr.deeper _
  refine ⟨_, sndSs (fo := fun FF' _ => FF' = FF) (Z.ctx (by omega) F1 F2 SC hg) (stm_cx SC fun FF' W W' _ h => h) ⟨fun h => by
    have h' : m0.top = true := h
    rw [Z.top] at h'
    cases h'⟩ d.F.body d.body o7, FF, _, st, W, μ, rfl, S, start_re o5 rp, runB_ptf S p⟩
end
end Ev
end
section
set_option Elab.async false
set_option linter.all false
set_option maxRecDepth 100000
set_option maxHeartbeats 4000003
namespace Ev
open PySem PySem.Spec PyProof.Rows L2
/-- what is known of a closure's text -/
structure LamT (G : Gl) (m0 : MC) (l : Nat) (N : List Str) (params : Arguments) (body : Expr) (scope : Scope) (L : Lam) : Prop where
  lam : G.lam l = some L
  par : noParB params = true
  kind : scope.kind = .function
  co : scope.isCoroutine = false
  gen : scope.isGenerator = false
  own : ∀ y ∈ scope.names, y.2 ≠ .local ∧ y.2 ≠ .cell
  nl : L.nl = N.length
  nd : N.Nodup
  body : mtE { m0 with N := N, sc := scope, ts := scope, top := false } L.body body = true
  fv : ∀ y ∈ scope.names, y.2 = .free → ∃ i ∈ L.fv, N[i]? = some y.1
variable [Gh]
/-- .. and of the closure -/
def LamI (G : Gl) (m0 : MC) (l : Nat) (f : Addr) (o : HO) (c : Addr) (oc : HO) : Prop := ∃ N params body scope L pm ctv cells qual, LamT G m0 l N params body scope L ∧ o = cellO f (PySem.W.kla_obj "<lambda>" qual params body scope (cloFrom cells scope.names []) pm c ctv) ∧ oc = LamX.CodeO c qual ∧
  (∀ x y a, List.lookup x cells = some a → List.lookup y cells = some a → x = y) ∧ (∀ i a, Gh.S i = some a → ∃ y, N[i]? = some y ∧ List.lookup y cells = some a) ∧ ∀ i j a, Gh.S i = some a → Gh.S j = some a → i = j
/-- the context of a closure's body -/
def lmX (P : Program) (w : World) (K : PySem.W.Frag) (mg : Str → Option Value) (base : Heap) (A : Around) (outer : List Env) (s : Shared) (H : Hp) (E : XK) (N : List Str) (env : Env) : Cx where
  prog := P
  w := w
  K := K
  mg := mg
  base := base
  A := A.deeper env
  N := N
  s_0 := s
  H_0 := H
  env := env
  outer := outer
  stack := env :: outer
  ex := []
  fn := fun _ => false
  calm := true
  pn := []
  xe := fun e s' => wpAny (model P w) (A.deeper env) (leaving env e) (fun _ s'' => L2.CX P w outer H s E e s'') (fun e' s'' => L2.CX P w outer H s E e' s'') s'
section
variable {P : Program} {w : World} {K : PySem.W.Frag} {mg : Str → Option Value} {base : Heap} {A : Around} {outer : List Env} {s : Shared} {H : Hp} {E : XK} {N : List Str} {qual : Str} {scope : Scope} {f c : Addr} {cells : List (Str × Addr)} {σ : L2.St}
theorem cl_up (hfree : ∀ y ∈ scope.names, y.2 = .free → ∃ a, cells.lookup y.1 = some a) {y : Str} {a : Addr} (e : (cloFrom cells scope.names []).lookup y = some a) : cells.lookup y = some a := by
  rcases cloFrom_mem (PySem.mem_of_lookup e) with hm | ⟨h1, h2⟩
  · cases hm
  · obtain ⟨b, hb⟩ := hfree _ h1 rfl
    have hb' : cells.lookup y = some b := hb
    rw [hb'] at h2 ⊢
    rw [h2]
    rfl
theorem cl_has {y : Str} (h : scope.names.lookup y = some .free) : ∃ a, (cloFrom cells scope.names []).lookup y = some a := mem_lookup (cloFrom_has (cells := cells) (acc := []) (PySem.mem_of_lookup h))
theorem lm_inv (e0 : Env0 P w K mg base A outer s H) (hd : A.handled = none) (kind : scope.kind = .function) (own : ∀ y ∈ scope.names, y.2 ≠ .local ∧ y.2 ≠ .cell) (hfree : ∀ y ∈ scope.names, y.2 = .free → ∃ a, cells.lookup y.1 = some a)
    (inj : ∀ x y a, cells.lookup x = some a → cells.lookup y = some a → x = y) (hcell : ∀ y a, (y, NameKind.free) ∈ scope.names → cells.lookup y = some a → H a = none ∧ ∃ v, s.heap.IsCell a v)
    (hloc : ∀ (i : Nat) (y : Str) (v : V), N[i]? = some y → σ[i]? = some (some v) → scope.names.lookup y = some .free → ∃ u a, RelV v u ∧ cells.lookup y = some a ∧ s.heap.IsCell a (some u)) (hlen : σ.length = N.length)
    {h1 : Heap} {tk : Nat} (hns : h1.Ns s.heap.objs.size fun y => ([] : List (Str × Value)).reverse.lookup y) (kp : ∀ b o, s.heap.get? b = some o → h1.get? b = some o) :
    Inv (lmX P w K mg base A outer s H E N (PySem.W.envX qual scope s.heap.objs.size f (.ref c) (cloFrom cells scope.names []))) [] σ H { s with heap := h1, toks := tk } := by
  have cin : ∀ {y : Str} {a : Addr}, (cloFrom cells scope.names []).lookup y = some a → (y, NameKind.free) ∈ scope.names := fun {y a} e => by
    rcases cloFrom_mem (PySem.mem_of_lookup e) with hm | ⟨q, _⟩
    · cases hm
    · exact q
  have cc : ∀ {y : Str} {a : Addr}, (cloFrom cells scope.names []).lookup y = some a → H a = none ∧ ∃ v, s.heap.IsCell a v := fun {y a} e => hcell y a (cin e) (cl_up hfree e)
  have noX : ∀ b : Addr, b ∉ (lmX P w K mg base A outer s H E N (PySem.W.envX qual scope s.heap.objs.size f (.ref c) (cloFrom cells scope.names []))).ex := fun b z => absurd (show b ∈ ([] : List Addr) from z) (by simp)
  constructor
  case ok =>
    constructor
    case mod => exact e0.mod
    case kind => exact kind
    case glob => rfl
    case blt => rfl
    case above => exact Nat.le_refl _
    case inj => exact fun x y a e1 e2 => inj x y a (cl_up hfree e1) (cl_up hfree e2)
    case has =>
      intro y hy
      have hy' : scope.names.lookup y = some .cell ∨ scope.names.lookup y = some .free := hy
      rcases hy' with hy' | hy'
      · exact absurd rfl (own _ (PySem.mem_of_lookup hy')).2
      · exact cl_has hy'
    case cab => exact fun _ _ z => absurd (show false = true from z) Bool.false_ne_true
    case hd => exact fun _ => hd
    case frames => exact Around.frames_deeper e0.frames
    case stk => exact .inr ⟨rfl, rfl⟩
    case exf => exact fun b z => absurd z (noX b)
    case bs => exact e0.bs
    case bsz => exact e0.bsz
    case noex => exact fun b _ _ => noX b
    case exfs => exact fun b z => absurd z (noX b)
    case funs => exact e0.funs
    case frf => exact e0.frf
  case os => rfl
  case bare => exact e0.bare
  case base => exact Un.kept kp
  case loc =>
    refine ⟨_, hns, fun i y v e1 e2 e3 => ?_⟩
    have e3' : scope.names.lookup y = some .local ∨ scope.names.lookup y = some .cell ∨ scope.names.lookup y = some .free := e3
    rcases e3' with k | k | k
    · exact absurd rfl (own _ (PySem.mem_of_lookup k)).1
    · exact absurd rfl (own _ (PySem.mem_of_lookup k)).2
    · obtain ⟨u, a, ru, ha, hc⟩ := hloc i y v e1 e2 k
      obtain ⟨b, hb⟩ := cl_has (cells := cells) k
      have eb := cl_up hfree hb
      rw [ha] at eb
      cases eb
      exact ⟨u, ru, .inr ⟨.inr k, a, hb, hc.keeps kp⟩⟩
  case cell =>
    intro y a e
    obtain ⟨_, v, hv⟩ := cc e
    exact ⟨v, hv.keeps kp⟩
  case free => exact e0.hok.fresh (Nat.le_refl _)
  case freeC => exact fun y a e => (cc e).1
  case pin => exact fun q hq => absurd (show q ∈ ([] : List (Addr × Obj)) ++ [] from hq) (by simp)
  case hok => exact e0.hok.kept kp
  case len => exact hlen
end
section
variable {K : PySem.W.Frag} {mg : Str → Option Value} {FF : List (Addr × HO)} {H H' : Hp} {W W' : Vw} {μ μ' : List Addr} {st st' : Sto} {Q : VK} {E : XK}
/-- a call's end -/
theorem leave_ptx {d : D} {v : V} (hn : μ.length = st.length) (S : SA K mg FF H' W' μ' st') (x : Ex2 W μ W' μ') (rv : Rpa K mg W' μ' d v) (p : PtX K mg (relA K mg) FF W μ (leave st.length d st') Q E) : Q v H' := by
  have gen : (∀ k, d = .mu k → k < st.length) → leave st.length d st' = .ok d (st'.take st.length) → Q v H' := fun h1 h2 => by
    rw [h2] at p
    obtain ⟨S2, x2⟩ := leave_sa hn S x
    exact p v H' W' _ S2 x2 (rv.take h1)
  cases d with
  | mu k =>
    by_cases hk : k < st.length
    · exact gen (fun j ej => by cases ej; exact hk) (by simp [leave, hk])
    · have h2 : leave st.length (.mu k) st' = .ok (.mu k) st' := by simp [leave, hk]
      rw [h2] at p
      exact p v H' W' μ' S x rv
  | clo l => exact False.elim p
  | _ => exact gen (fun j ej => by cases ej) rfl
end
theorem bind_none {qual : Str} {params : Arguments} {body : Expr} {scope : Scope} {cl : List (Str × Addr)} {pm cdv ct : Value} (h : noParB params = true) : bindArgs (PySem.W.kla_fn "<lambda>" qual params body scope cl pm cdv ct) ⟨[], []⟩ = pure [] := by
  unfold noParB at h
  split at h
  · rfl
  · cases h
section
variable {K : PySem.W.Frag} {mg : Str → Option Value} {P : Program} {w : World} {base : Heap} {G : Gl} {m0 : MC}
theorem clo_ok (Z : Wld K mg P w base G m0) (CI : ∀ l f o c oc, Gh.P l f o c oc → LamI G m0 l f o c oc) {k : Nat} (F1 : ∀ f a, mg f = some (.ref a) → FnC K mg P w base (k + 3) a ((orcAt G k).fn f)) (F2 : ∀ l, CloC K mg P w base (k + 3) l ((orcAt G k).clo l)) (l : Nat) :
    CloC K mg P w base (k + 4) l ((orcAt G (k + 1)).clo l) := by
  rintro A outer s H f Q E hr e0 ⟨FF, st, W, μ, S, r, p⟩
  simp only [Rp] at r
  obtain ⟨f', o, c, oc, ef, hp, hgf, hgc, hne⟩ := r
  cases ef
  obtain ⟨N, params, body, scope, L, pm, ctv, cells, qual, T, rfl, rfl, cinj, hS2, hSi⟩ := CI _ _ _ _ _ hp
  simp only [orcAt, T.lam] at p
  cases he : envS st with
  | none =>
    rw [he] at p
    exact False.elim p
  | some q =>
    obtain ⟨j, is, ys⟩ := q
    rw [he] at p
    dsimp only at p
    split at p
    case isFalse => exact False.elim p
    rename_i hcond
    simp only [Bool.and_eq_true, decide_eq_true_eq] at hcond
    obtain ⟨hnd, hfv⟩ := hcond
    obtain ⟨hj, hoth⟩ := envS_get he
    have hE : EnvR K mg W is ys := S.sto j _ hj
    obtain ⟨cf, vs, rvs, nd, hcf, hin, hfill⟩ := env_cells hE hnd hSi
    have hG : ∀ p ∈ cf, W.G p.1 = some (cellO p.1 p.2) := fun p hp => (hcf p hp).1
    have hS : ∀ p ∈ cf, ∃ i, Gh.S i = some p.1 := fun p hp => ((hcf p hp).2).elim fun i h => ⟨i, h.2⟩
    have hH : ∀ p ∈ cf, H p.1 = some (cellO p.1 p.2) := fun p hp => S.sub _ _ (hG p hp)
    have hat : ∀ p ∈ cf, s.heap.get? p.1 = some p.2 := fun p hp => cell_at (e0.hok _ _ (hH p hp))
    have nf : ∀ p ∈ cf, p.1 ∉ frs outer := fun p hp hm => by
      have := e0.frf _ hm
      rw [hH p hp] at this
      cases this
    have jlt : j < st.length := (List.getElem?_eq_some_iff.mp hj).1
    have S1 : SA K mg FF H W μ (st.set j (.env [] [])) := S.setE hj rfl True.intro rfl
    have S2 := S1.cuts hG hS fun k' is' xs' e => by
      by_cases hk : k' = j
      · subst hk
        rw [List.getElem?_set_self jlt] at e
        cases e
        rfl
      · rw [List.getElem?_set_ne (fun z => hk z.symm)] at e
        exact hoth k' is' xs' hk e
    have e0' := env0_del e0 hH
    have hof : s.heap.get? f = some (PySem.W.kla_obj "<lambda>" qual params body scope (cloFrom cells scope.names []) pm c ctv) := cell_at (e0.hok f _ (S.sub _ _ hgf))
    obtain ⟨⟨oc, vsc, t, hoc, hdc, hvc⟩, _, _⟩ := e0.hok c _ (S.sub _ _ hgc)
    -- the closure's cells
    have fvS : ∀ y ∈ scope.names, y.2 = .free → ∃ i a o u, N[i]? = some y.1 ∧ Gh.S i = some a ∧ cells.lookup y.1 = some a ∧ (a, o) ∈ cf ∧ o.data = .cell (some u) := fun y hy hyf => by
      obtain ⟨i, hi, hN⟩ := T.fv y hy hyf
      have hi2 : i ∈ is := by
        have := List.all_eq_true.mp hfv i hi
        simpa using this
      obtain ⟨a, o, u, hSa, ho, hd⟩ := hin i hi2
      obtain ⟨y', hy', hc'⟩ := hS2 i a hSa
      rw [hN] at hy'
      cases hy'
      exact ⟨i, a, o, u, hN, hSa, hc', ho, hd⟩
    have Qn : ∀ {v : V} {H' : Hp}, True := trivial
    have rc : codeAny (model P w) A (.call (.ref f) ⟨[], []⟩) (CR (L2.CX P w) outer P w (delC H cf) s (fun v H' => (∀ p ∈ cf, H' p.1 = none) → Q v (addC H' cf)) (fun cls dd H' => (∀ p ∈ cf, H' p.1 = none) → E cls dd (addC H' cf))) s := by
      refine PySem.W.kla_callFunE hr.r.depth hof rfl T.co T.gen rfl ⟨c, oc, vsc, t, rfl, hoc, hdc, hvc⟩ ?_
      rw [bind_none T.par]
      refine wpAny_pure (wpAny_newFunctionEnv (fun y hy => (T.own y hy).2) (fun y hy => absurd hy (by simp)) (fun h1 hns hsb => ⟨(e0.mod.nolimit.keeps fun b o e => (e0.bs b o e).1).fresh _ hsb, ?_⟩) T.kind)
      show codeAny _ _ (.expr body (PySem.W.envX qual scope s.heap.objs.size f (.ref c) (cloFrom cells scope.names []))) _ _
      have kp : ∀ b o, s.heap.get? b = some o → h1.get? b = some o := fun b o e => hsb.extBut b o (Nat.ne_of_lt (Heap.lt_size e)) (Heap.get?_push_of_some _ e)
      have J := lm_inv (E := fun cls dd H' => (∀ p ∈ cf, H' p.1 = none) → E cls dd (addC H' cf)) (σ := fillS (List.replicate N.length none) is vs) (N := N) (qual := qual) (f := f) (c := c) (tk := s.toks + ([] : List (Str × Value)).length) e0' hr.r.hd T.kind T.own
        (fun y hy hyf => (fvS y hy hyf).elim fun i h => h.elim fun a h => h.elim fun o h => h.elim fun u h => ⟨a, h.2.2.1⟩) cinj
        (fun y a hy ha => by
          obtain ⟨i, a', o, u, _, _, hc', ho, hd⟩ := fvS _ hy rfl
          have hc'' : cells.lookup y = some a' := hc'
          rw [ha] at hc''
          cases hc''
          exact ⟨delC_in (List.mem_map_of_mem (f := (·.1)) ho), some u, o, hat _ ho, hd⟩)
        (fun i y v hN hσ hk => by
          rcases hfill i v hσ with hσ | ⟨a, o, u, hSa, ho, hd, ru⟩
          · rw [List.getElem?_replicate] at hσ
            split at hσ <;> cases hσ
          · obtain ⟨y', hy', hc'⟩ := hS2 i a hSa
            rw [hN] at hy'
            cases hy'
            exact ⟨u, a, ru, hc', o, hat _ ho, hd⟩)
        (by rw [fillS_len, List.length_replicate]) hns kp
      have CO : CtxOk ⟨G.con, G.isa, G.exs, orcAt G k, G.wf, none⟩ { m0 with N := N, sc := scope, ts := scope, top := false } (lmX P w K mg base A outer s (delC H cf) (fun cls dd H' => (∀ p ∈ cf, H' p.1 = none) → E cls dd (addC H' cf)) N (PySem.W.envX qual scope s.heap.objs.size f (.ref c) (cloFrom cells scope.names []))) (fun cls dd _ H' => (∀ p ∈ cf, H' p.1 = none) → E cls dd (addC H' cf)) (k + 3) := {
        hN := rfl
        nd := T.nd
        hsc := rfl
        calm := rfl
        room := hr.deeper _
        tk := takes_of (X := lmX P w K mg base A outer s (delC H cf) (fun cls dd H' => (∀ p ∈ cf, H' p.1 = none) → E cls dd (addC H' cf)) N (PySem.W.envX qual scope s.heap.objs.size f (.ref c) (cloFrom cells scope.names []))) rfl rfl rfl rfl
        tl := fun x hx => by
          have hx' : locB scope x = true := hx
          unfold locB at hx'
          split at hx'
          · rename_i e
            exact absurd rfl (T.own _ (PySem.mem_of_lookup e)).1
          · rename_i e
            exact absurd rfl (T.own _ (PySem.mem_of_lookup e)).2
          · cases hx'
        con := Z.con
        isa := Z.isa
        cns := Z.cns
        bn := Z.bn
        gcd := Z.gcd
        fns := Z.fns
        fnc := F1
        clo := F2
        clf := Z.clf
        top := fun h => nomatch h
        k2 := by omega
        exc := Z.exc
        exm := Z.exm }
      refine PySem.W.kla_codeExpr (wpAny_mono ((sndE CO L.body body T.body).run [] _ _ _ (fun v H' => (∀ p ∈ cf, H' p.1 = none) → Q v (addC H' cf)) J ⟨FF, fillE (List.replicate L.nl none) is ys, st.set j (.env [] []), W.cut cf, μ, S2, ?_, ?_⟩) (fun v s' hq => ?_) fun e s' hq => hq)
      · refine fillS_re ⟨by simp [T.nl], fun i d e => ?_⟩ (Rps.cut hG hS rvs)
        rw [List.getElem?_replicate] at e
        split at e <;> cases e
      · have fin : ∀ {H' : Hp} {W' : Vw} {μ' : List Addr} {s' : Sto}, SA K mg FF H' W' μ' s' → Ex2 (W.cut cf) μ W' μ' → s'[j]? = some (.env [] []) → (∀ p ∈ cf, H' p.1 = none) → SA K mg FF (addC H' cf) (W'.add cf) μ' (s'.set j (.env is ys)) ∧ Ex2 W μ (W'.add cf) μ' ∧ LeW W' (W'.add cf) := fun {H' W' μ' s'} S' x' hj' hz => by
          have le3 : LeW W' (W'.add cf) := LeW.add nd fun p hp => by
            cases e : W'.G p.1 with
            | none => rfl
            | some u =>
              have := S'.sub _ _ e
              rw [hz p hp] at this
              cases this
          have leW : LeW W (W'.add cf) := ⟨fun a o h => by
            show addC W'.G cf a = some o
            by_cases ha : a ∈ cf.map (·.1)
            · obtain ⟨p, hp, rfl⟩ := mem_fst ha
              rw [addC_in nd p hp, ← hG p hp]
              exact h
            · rw [addC_ne ha]
              refine x'.w.g a o ?_
              show delC W.G cf a = some o
              rw [delC_ne ha]
              exact h⟩
          exact ⟨(S'.adds nd hz).setE hj' rfl (EnvR.mono leW hE) rfl, ⟨leW, x'.m⟩, le3⟩
        have hlen : μ.length = st.length := S.len
        cases ee : evE ⟨G.con, G.isa, G.exs, orcAt G k, G.wf, none⟩ L.body (fillE (List.replicate L.nl none) is ys) (st.set j (.env [] [])) with
        | no =>
          rw [ee] at p
          exact False.elim p
        | ok d s' =>
          rw [ee] at p
          dsimp only at p
          split at p
          · rename_i hj'
            intro v H' W' μ' S' x' rv hz
            obtain ⟨S3, x3, le3⟩ := fin S' x' hj' hz
            exact leave_ptx hlen S3 x3 (rv.mono ⟨le3, [], by simp⟩) p
          · exact False.elim p
        | exc y s' =>
          rw [ee] at p
          dsimp only at p
          split at p
          · rename_i hj'
            intro H' W' μ' cls dd S' x' ry hz
            obtain ⟨S3, x3, le3⟩ := fin S' x' hj' hz
            obtain ⟨S4, x4⟩ := leave_sa hlen S3 x3
            obtain ⟨Cx, aa, fs, h1, h2, h3, h4, h5⟩ := ry
            exact p _ _ _ cls dd S4 x4 ⟨Cx, aa, fs, h1, h2, h3, le3.g _ _ h4, fun f d e => (h5 f d e).elim fun v hv => ⟨v, hv.1, hv.2.mono le3⟩⟩
          · exact False.elim p
      · obtain ⟨w', H', J', rv, q⟩ := hq
        exact ⟨w', H', J'.os, J'.bare, J'.base, J'.hok, rv, q⟩
    refine codeAny_mono rc fun r s' hq => ?_
    cases r with
    | error e =>
      obtain ⟨a, B, H', cls, d, rfl, fl, hok, ub, na, os, ag, hE'⟩ := hq
      obtain ⟨n2, ub2, hok2⟩ := ub_add nd hH e0.hok nf ub hok
      refine ⟨a, B, addC H' cf, cls, d, rfl, fl, hok2, ub2, ?_, os, ag, hE' fun p hp => (n2 p hp).1⟩
      rw [addC_ne fun hm => ?_]
      · exact na
      · obtain ⟨p, hp, e⟩ := mem_fst hm
        have := (n2 p hp).2
        rw [e, fl.2.1] at this
        cases this
    | ok fl =>
      cases fl with
      | ret u =>
        obtain ⟨v, H', os, bare, un, hok, rv, q⟩ := hq
        obtain ⟨n2, un2, hok2⟩ := un_add nd hH e0.hok nf un hok
        exact ⟨v, addC H' cf, os, bare, un2, hok2, rv, q n2⟩
      | next => exact hq
      | brk => exact hq
      | cont => exact hq
end
end Ev
end
section
set_option Elab.async false
set_option linter.all false
set_option maxRecDepth 100000
set_option maxHeartbeats 4000003
namespace Ev
open PySem PySem.Spec PyProof.Rows L2
/-! ### from the law's call at the claim's caller -/
section
variable {P : Program} {w : World} {K : PySem.W.Frag} {mg mb : Str → Option Value} {fa a c T : Addr} {s1 : Shared} {vs : List Value} {ns : List Int}
/-- what stays told while the law runs: the script, if the head's part does not know it; the table -/
def hLaw (K : PySem.W.Frag) (a T : Addr) (vs : List Value) (ns : List Int) : Hp := fun b => if b = T then some (.tbl #[]) else if b = a ∧ K.lookup a = none then some (.frz { cls := .type "list", data := .seq vs.toArray } (.lst (ns.map V.int))) else none
theorem hLaw_T : hLaw K a T vs ns T = some (.tbl #[]) := if_pos rfl
theorem hLaw_a (h : a ≠ T) (hk : K.lookup a = none) : hLaw K a T vs ns a = some (.frz { cls := .type "list", data := .seq vs.toArray } (.lst (ns.map V.int))) := (if_neg h).trans (if_pos ⟨rfl, hk⟩)
theorem hLaw_some {b : Addr} {u : HO} (h : hLaw K a T vs ns b = some u) : (b = T ∧ u = .tbl #[]) ∨ (b = a ∧ K.lookup a = none ∧ u = .frz { cls := .type "list", data := .seq vs.toArray } (.lst (ns.map V.int))) := by
  unfold hLaw at h
  split at h
  · rename_i e
    exact .inl ⟨e, (Option.some.inj h).symm⟩
  · split at h
    · rename_i e
      exact .inr ⟨e.1, e.2, (Option.some.inj h).symm⟩
    · cases h
theorem law_end (KX : K.In s1.heap) (hns : s1.heap.Ns mainGlobals mg) (hb : s1.heap.Ns builtinsNs mb) (hbb : ∀ x : Str, x ≠ "__name__" → mb x = bootBuiltins x) (hlim : s1.heap.NoLimit) (hg : s1.gens = #[])
    (hT : s1.heap.get? T = some { cls := .none, data := .fields #[] }) (nT : K.lookup T = none) (C : PySem.W.CodeHd s1.heap c T)
    (hbm : ∃ (bm : Addr) (ob : Obj), mg "__builtins__" = some (.ref bm) ∧ bm ≠ builtinsNs ∧ s1.heap.get? bm = some ob ∧ ob.cls = .type "module" ∧ ob.dict = some builtinsNs ∧ ob.data = .plain)
    (ha : s1.heap.get? a = some { cls := .type "list", data := .seq vs.toArray }) (hi : IntsAre vs ns) (hl : ns.length ≤ sizeLine)
    (F : ∀ (base : Heap) (H : Hp), L2.Mod K mg base → LamX.TabB base mg c T → H T = some (.tbl #[]) → SqL K H a (ns.map V.int) → Env0 P w K mg base callerA [] s1 H →
      codeAny (model P w) callerA (.call (.ref fa) ⟨[.ref a], []⟩) (CR (L2.CX P w) [] P w H s1 (fun v _ => v = .bl true) fun _ _ _ => False) s1) :
    codeAny (model P w) callerA (.call (.ref fa) ⟨[.ref a], []⟩) (fun r s' => r = .ok (.ret (.bool true)) ∧ OldK s1.heap s'.heap ∧ s'.os = s1.os ∧ AllBare s'.gens) s1 := by
  have rv := vals_ints hi
  have aT : a ≠ T := fun z => by
    rw [z, hT] at ha
    cases ha
  have hok : HOk P w (hLaw K a T vs ns) s1.heap := fun b u e => by
    rcases hLaw_some e with ⟨rfl, rfl⟩ | ⟨rfl, _, rfl⟩
    · exact hT
    · exact ⟨ha, by rw [List.length_map]; exact hl, vs, _, rv, ha⟩
  have free : ∀ {b : Addr} {o : Obj}, s1.heap.get? b = some o → (∀ xs n, o.data ≠ .seq xs n) → o.data ≠ .fields #[] → hLaw K a T vs ns b = none := fun {b o} e n1 n2 => by
    cases q : hLaw K a T vs ns b with
    | none => rfl
    | some u =>
      rcases hLaw_some q with ⟨rfl, _⟩ | ⟨rfl, _, _⟩
      · rw [hT] at e
        cases e
        exact absurd rfl n2
      · rw [ha] at e
        cases e
        exact absurd rfl (n1 _ _)
  have low : ∀ {b : Addr} {o : Obj}, s1.heap.get? b = some o → (∀ xs n, o.data ≠ .seq xs n) → o.data ≠ .fields #[] → (hidT s1.heap (hLaw K a T vs ns)).get? b = some o := fun e n1 n2 => hidT_get e (free e n1 n2)
  have nsD : ∀ {b : Addr} {mm : Str → Option Value}, s1.heap.Ns b mm → (hidT s1.heap (hLaw K a T vs ns)).Ns b mm := fun {b mm} ⟨o, es, ep, e, d, r⟩ => ⟨o, es, ep, low e (fun _ _ z => by rw [d] at z; cases z) (fun z => by rw [d] at z; cases z), d, r⟩
  have kb : K.In (hidT s1.heap (hLaw K a T vs ns)) := fun b o e => hidT_get (KX b o e) (by
    cases q : hLaw K a T vs ns b with
    | none => rfl
    | some u =>
      rcases hLaw_some q with ⟨rfl, _⟩ | ⟨rfl, hk, _⟩
      · rw [nT] at e
        cases e
      · rw [hk] at e
        cases e)
  have M : L2.Mod K mg (hidT s1.heap (hLaw K a T vs ns)) := ⟨kb, nsD hns, ⟨mb, nsD hb, hbb⟩, hlim.elim fun mc z => ⟨mc, nsD z.1, z.2⟩⟩
  have TB : LamX.TabB (hidT s1.heap (hLaw K a T vs ns)) mg c T := by
    constructor
    · obtain ⟨o, us, file, tf, flags, tg, inF, text, tt, e1, r1, r2, r3, rest⟩ := C
      exact ⟨o, us, file, tf, flags, tg, inF, text, tt, low e1 (fun _ _ z => by rw [r2] at z; cases z) (fun z => by
        rw [r2] at z
        cases z
        simp at r3), r1, r2, r3, rest⟩
    · obtain ⟨bm, ob, b1, b2, b3, b4, b5, b6⟩ := hbm
      refine ⟨bm, ob, b1, b2, fun q => ?_, fun q => ?_, low b3 (fun _ _ z => by rw [b6] at z; cases z) (fun z => by rw [b6] at z; cases z), b4, b5, b6⟩
      · obtain ⟨o, es, ep, e, d, _⟩ := hns
        rw [q, e] at b3
        cases b3
        rw [d] at b6
        cases b6
      · rw [q, hT] at b3
        cases b3
        cases b6
    · intro z
      obtain ⟨o, es, ep, e, d, _⟩ := hns
      rw [z, hT] at e
      cases e
      cases d
  have sq : SqL K (hLaw K a T vs ns) a (ns.map V.int) := by
    cases hk : K.lookup a with
    | none => exact .inl (.inr ⟨_, hLaw_a aT hk⟩)
    | some o =>
      have e := KX a o hk
      rw [ha] at e
      cases e
      exact .inr ⟨_, vs.toArray, _, hk, rfl, rfl, rfl, by rw [List.size_toArray, hi.length]; exact hl, by simpa using rv⟩
  have e0 : Env0 P w K mg (hidT s1.heap (hLaw K a T vs ns)) callerA [] s1 (hLaw K a T vs ns) := ⟨rfl, M, fun b o e => of_hidT e, Nat.le_of_eq (hidT_size _ _), trivial, fun b hm => absurd (show b ∈ ([] : List Addr) from hm) (by simp), hok, .of_eq hg⟩
  refine codeAny_mono (F _ _ M TB hLaw_T sq e0) fun r s' h => ?_
  cases r with
  | error e =>
    obtain ⟨_, _, _, _, _, _, _, _, _, _, _, _, z⟩ := h
    exact z.elim
  | ok fl =>
    cases fl with
    | next => exact False.elim h
    | brk => exact False.elim h
    | cont => exact False.elim h
    | ret u =>
      obtain ⟨v, H', os, bare, un, hok', r', rfl⟩ := h
      obtain rfl : u = Value.bool true := r'
      have keep : ∀ b o, b ≠ T → s1.heap.get? b = some o → s'.heap.get? b = some o := fun b o nb e => by
        cases q : hLaw K a T vs ns b with
        | none => exact un.keep b o e q (fun z => absurd (show b ∈ ([] : List Addr) from z) (by simp)) (by simp)
        | some u =>
          rcases hLaw_some q with ⟨z, _⟩ | ⟨_, _, rfl⟩
          · exact absurd z nb
          · have e1 := (hok b _ q).1
            have e2 := (hok' b _ (un.frzs b _ _ q)).1
            rw [e] at e1
            cases e1
            exact e2
      obtain ⟨more, zm⟩ := un.tbls T #[] hLaw_T
      have tab' : s'.heap.get? T = some { cls := .none, data := .fields (#[] ++ more) } := hok' T _ zm
      refine ⟨rfl, ⟨fun b o e => ?_, fun b o e => ?_⟩, os, bare⟩
      · by_cases hb : b = T
        · subst hb
          rw [hT] at e
          cases e
          exact .inr (.inl ⟨(C.tab hT).isCodeTable, rfl, #[], more, rfl, tab'⟩)
        · exact .inl (keep b o hb e)
      · by_cases hb : b = T
        · exact ⟨_, by rw [hb]; exact tab'⟩
        · exact ⟨o, keep b o hb e⟩
end
/-- what is known of the law at the head's heap h -/
def EvAt (P : Program) (w : World) (K : PySem.W.Frag) (n : Nat) (mg : Str → Option Value) (fa : Addr) (h : Heap) : Prop := ∃ c T : Addr, h.get? T = some { cls := .none, data := .fields #[] } ∧ K.lookup T = none ∧ PySem.W.CodeHd h c T ∧
  ∀ (base : Heap) (H : Hp) (s1 : Shared) (a : Addr) (ns : List Int), ns.length ≤ n → (∀ z ∈ ns, Builtin.Int.intBits z ≤ 1048576) → L2.Mod K mg base → LamX.TabB base mg c T → H T = some (.tbl #[]) → SqL K H a (ns.map V.int) → Env0 P w K mg base callerA [] s1 H →
    codeAny (model P w) callerA (.call (.ref fa) ⟨[.ref a], []⟩) (CR (L2.CX P w) [] P w H s1 (fun v _ => v = .bl true) fun _ _ _ => False) s1
theorem walk_ev {l : PySem.W.OpenLaw} {n : Nat} {q : Program} {loose : List Str} {XP : (Str → Option Value) → Heap → Prop} {YP : World → Heap → Prop} {d : DefRec} (hn : l.most = some n) (hn2 : n ≤ sizeLine) (hdf : d.params.defaults = [])
    (F : ∀ (w : World) (mg : Str → Option Value) (fa : Addr) (h : Heap), YP w h → h.Ns mainGlobals mg → mg d.name = some (.ref fa) → ∃ K : PySem.W.Frag, K.In h ∧ EvAt l.prog w K n mg fa h) : PySem.W.WalkO q loose XP YP l.row.toRowW d [] (fun f vs => PySem.call f vs) := by
  refine Att.attach_callB hn hdf fun w s0 s1 mg mb fa o pm cd doc a vs ns G Y ho hd hcd hmg hobj hints hlen hbits hg => ?_
  obtain ⟨K, KX, c, T, hT, nT, C, hF⟩ := F w mg fa _ Y G.T.g hmg
  exact law_end KX G.T.g G.T.b G.T.builtins G.T.nolimit hg hT nT C G.T.bmain hobj hints (Nat.le_trans hlen hn2) fun base H M TB e1 e2 e3 => hF base H s1 a ns hlen hbits M TB e1 e2 e3
end Ev
end
section
set_option Elab.async false
set_option linter.all false
set_option maxRecDepth 100000
set_option maxHeartbeats 4000003
namespace Ev
open PySem PySem.Spec PyProof.Rows L2
/-! ### checks of the head's part -/
def oexB (K : PySem.W.Frag) (C : Addr) : Bool := match K.lookup C with
  | some ⟨.type t, _, .cls cd, sl⟩ => decide (t = "type") && cd.hasDict && !cd.hasDel && (match cd.mro, sl.toList with
    | .ref C' :: bm, [_, _, _, _, some (.builtin n), _] => decide (C' = C) && decide (n = "ValueError.__new__") && PySem.HandSPX.refsVE bm
    | _, _ => false)
  | _ => false
theorem oexB_ok {K : PySem.W.Frag} {C : Addr} (h : oexB K C = true) : ∃ nm q N bs bm sn sub ab col dd k0 k1 k2 k3 k5, K.lookup C = some (excClassObj nm q C N bs bm true sn sub ab col dd k0 k1 k2 k3 k5 "ValueError.__new__") ∧ PySem.HandSPX.refsVE bm = true := by
  unfold oexB at h
  split at h
  · rename_i t dd cd sl ho
    simp only [Bool.and_eq_true, decide_eq_true_eq, Bool.not_eq_true'] at h
    obtain ⟨⟨⟨rfl, h1⟩, h2⟩, h3⟩ := h
    split at h3
    · rename_i C' bm k0 k1 k2 k3 n k5 hm hs
      simp only [Bool.and_eq_true, decide_eq_true_eq] at h3
      obtain ⟨⟨rfl, rfl⟩, hr⟩ := h3
      obtain ⟨nm, bs, mro, ns, qn, hd, sn, sub, ab, col, del⟩ := cd
      dsimp only at hm h1 h2
      subst hm h1 h2
      have hsl : sl = #[k0, k1, k2, k3, some (.builtin "ValueError.__new__"), k5] := by
        obtain ⟨l⟩ := sl
        simp only at hs
        rw [hs]
      subst hsl
      exact ⟨nm, qn, ns, bs, bm, sn, sub, ab, col, dd, k0, k1, k2, k3, k5, ho, hr⟩
    · cases h3
  · cases h
/-- an own exception's class x with its fields -/
def excB (K : PySem.W.Frag) (x : Str) (fs : List Str) : Bool :=
  oexB K (He.ga K x) && decide (PySem.W.findIn K (.ref (He.ga K x)) "__setattr__" = some (some (.builtin "object.__setattr__"))) && decide (PySem.W.subIn K (.ref (He.ga K x)) (.type "BaseException") = some true) &&
  decide (PySem.W.typeIn K (.ref (He.ga K x)) = some (.type "type")) && PySem.W.keepIn K (.ref (He.ga K x)) && xfB K (He.ga K x) && (fs.all fun f => decide (PySem.W.findIn K (.ref (He.ga K x)) f = some none)) &&
  decide (PySem.W.findIn K (.ref (He.ga K x)) "__init__" = some (some (.ref (He.ma K (He.ga K x) "__init__")))) && decide (PySem.W.typeIn K (.ref (He.ma K (He.ga K x) "__init__")) = some (.type "function")) && decide fs.Nodup && decide (fs.length ≤ 900) && !fs.isEmpty
def basB (K : PySem.W.Frag) (x : Str) : Bool :=
  PySem.W.readsIn K (He.ga K x) (.type "type") && (match PySem.W.findCls K (.ref (He.ga K x)) (.type "type") "__init__" with
    | some (.val v) => decide (v = .builtin "ValueError.__init__")
    | _ => false) && decide (PySem.W.specialIn K (.ref (He.ga K x)) "__getattribute__" = some (some (.builtin "type.__getattribute__")))
theorem basB_ok {K : PySem.W.Frag} {x : Str} (h : basB K x = true) : BasX K (He.ga K x) := by
  unfold basB at h
  simp only [Bool.and_eq_true, decide_eq_true_eq] at h
  obtain ⟨⟨h1, h2⟩, h3⟩ := h
  refine ⟨h1, ?_, h3⟩
  split at h2
  · rename_i v e
    rw [e, of_decide_eq_true h2]
  · cases h2
/-! ### a law's text -/
/-- an own exception: its class, its fields, its __init__'s text -/
structure Xn where
  name : Str
  fs : List Str
  N : List Str
  params : Arguments
  body : List Stmt
  scope : Scope
structure LawD where
  defs : List Dn
  lw : Dn
  excs : List Xn := []
  base : Str := "HedgeError"
  gcd : Bool := false
  lams : List Lam := []
  wf : Nat := 1000
def LawD.gl (L : LawD) : Gl where
  con := fun x => if L.defs.any (fun d => decide (d.name = x)) then some (.fn x) else none
  isa := fun _ _ => none
  cls := fun _ => none
  exs := fun c => (L.excs.map fun e => (e.name, e.fs)).lookup c
  fn := fun f => (L.defs.map fun d => (d.name, d.F)).lookup f
  lam := fun l => L.lams[l]?
  wf := L.wf
def LawD.m0 (L : LawD) : MC where
  N := []
  sc := L.lw.scope
  ts := L.lw.scope
  fns := L.defs.map (·.name)
  cns := []
  gcd := L.gcd
  exn := L.excs.map (·.name)
  lam := fun l => L.lams[l]?
  top := false
def LawD.mL (L : LawD) : MC := { L.m0 with N := L.lw.N, sc := L.lw.scope, ts := L.lw.scope, top := true }
/-- the text is the terms' -/
def LawD.okB (L : LawD) : Bool := (L.defs.all fun d => d.okB L.m0) && C8.scC L.lw.N [("script" : Str)] L.lw.scope && plainPar L.lw.params && decide (L.lw.ps = [("script" : Str)]) && decide (L.lw.F.nl = L.lw.N.length) && mtSs L.mL L.lw.F.body L.lw.body && decide (L.lw.name = "law") &&
  (L.excs.all fun e => C8.scC e.N e.N e.scope && plainPar e.params && decide (e.params.args.map (·.arg) = e.N) && decide (e.N.length = e.fs.length + 1) && initB L.base e.N e.scope (e.fs.zipIdx 1) e.body) && decide (L.defs.map (·.name)).Nodup && decide (L.excs.map (·.name)).Nodup
/-- what is asked of the head -/
def LawD.fa (L : LawD) : List He.Fa := (L.defs.map fun d => He.Fa.glo d.name) ++ (L.excs.map fun e => He.Fa.glo e.name) ++ [He.Fa.glo L.base, He.Fa.glo "law"] ++ bNs.map He.Fa.free
def LawD.fn (L : LawD) : List He.DefD := (L.defs.map fun d => ⟨(d.name, none), d.name, d.name, d.params, d.body, d.scope, [], []⟩) ++ [⟨("law", none), "law", "law", L.lw.params, L.lw.body, L.lw.scope, [], []⟩] ++
  L.excs.map fun e => ⟨(e.name, some "__init__"), "__init__", e.name ++ ".__init__", e.params, e.body, e.scope, [], []⟩
def LawD.ex (L : LawD) (K : PySem.W.Frag) : Bool := (L.excs.all fun e => excB K e.name e.fs) && (L.excs.isEmpty || basB K L.base) && (!L.gcd || decide (PySem.W.nsIn K mainGlobals "gcd" = some (some (.builtin "math.gcd")))) &&
  L.excs.all fun e => L.excs.all fun e' => decide (PySem.W.exmOne K (.ref (He.ga K e.name)) (.ref (He.ga K e'.name)) = some (decide (e.name = e'.name)))
theorem look_map {α β : Type} {g : α → Str} {v : α → β} {l : List α} {x : Str} {y : β} (h : (l.map fun d => (g d, v d)).lookup x = some y) : ∃ d ∈ l, g d = x ∧ v d = y := by
  obtain ⟨d, hd, e⟩ := List.mem_map.mp (PySem.mem_of_lookup h)
  cases e
  exact ⟨d, hd, rfl, rfl⟩
theorem plain_eq {p : Arguments} (h : plainPar p = true) (hd : p.defaults = []) : p = ⟨[], p.args, none, [], [], none, []⟩ := by
  cases p with
  | mk a b c d e f g =>
    cases a <;> cases c <;> cases d <;> cases e <;> cases f <;> first | (cases hd; rfl) | cases h
theorem plain_eq' {p : Arguments} (h : plainPar p = true) : p = ⟨[], p.args, none, [], [], none, []⟩ := by
  cases p with
  | mk a b c d e f g =>
    cases a <;> cases c <;> cases d <;> cases e <;> cases f <;> cases g <;> first | rfl | cases h
theorem and3 {a b : Bool} (h : (a && b) = true) : a = true ∧ b = true := Bool.and_eq_true_iff.mp h
section
variable {L : LawD} {K : PySem.W.Frag} {h : Heap} {mg : Str → Option Value} {P : Program} {w : World} {base : Heap} {tf : List He.Defn}
theorem exc_ok (ok : L.okB = true) (X : K.In h) (G : h.Ns mainGlobals mg) (c : He.SaysX L.fa L.fn [] tf L.ex w h K) {e : Xn} (he : e ∈ L.excs) : ExcC K mg P w base e.name e.fs := by
  unfold LawD.okB at ok
  simp only [Bool.and_eq_true, decide_eq_true_eq] at ok
  obtain ⟨⟨⟨_, o8⟩, _⟩, o10⟩ := ok
  have oe := List.all_eq_true.mp o8 e he
  simp only [Bool.and_eq_true, decide_eq_true_eq] at oe
  obtain ⟨⟨⟨⟨q1, q2⟩, q3⟩, q4⟩, q5⟩ := oe
  have mr := c.more
  unfold LawD.ex at mr
  simp only [Bool.and_eq_true, Bool.or_eq_true] at mr
  obtain ⟨⟨⟨m1, m2⟩, _⟩, _⟩ := mr
  have ex := List.all_eq_true.mp m1 e he
  unfold excB at ex
  simp only [Bool.and_eq_true, decide_eq_true_eq, Bool.not_eq_true'] at ex
  obtain ⟨⟨⟨⟨⟨⟨⟨⟨⟨⟨⟨x1, x2⟩, x3⟩, x4⟩, x5⟩, x6⟩, x7⟩, x8⟩, x9⟩, x10⟩, x11⟩, x12⟩ := ex
  have hb : BasX K (He.ga K L.base) := basB_ok (m2.resolve_left fun z => by
    cases hx : L.excs with
    | nil => rw [hx] at he; cases he
    | cons _ _ => rw [hx] at z; cases z)
  have hbm : mg L.base = some (.ref (He.ga K L.base)) := He.glo_ok X G (c.t.d.facts (by unfold LawD.fa; simp))
  have hm : mg e.name = some (.ref (He.ga K e.name)) := He.glo_ok X G (c.t.d.facts (by
    unfold LawD.fa
    simp only [List.mem_append, List.mem_map]
    exact .inl (.inl (.inr ⟨e, he, rfl⟩))))
  obtain ⟨fd, FD⟩ := c.t.d.defs (d := ⟨(e.name, some "__init__"), "__init__", e.name ++ ".__init__", e.params, e.body, e.scope, [], []⟩) (by
    unfold LawD.fn
    simp only [List.mem_append, List.mem_map]
    exact .inr ⟨e, he, rfl⟩)
  have T : OexC K (He.ga K e.name) := ⟨oexB_ok x1, x2, x3, x4, x5⟩
  have nd : e.N.Nodup := (C8.fnScope_by q1).nd
  have hbind : Binds K fd e.N [] := FunD.bindsN FD fun kV doc pm an cdv ct us hl => by
    have := bind_plain (name := "__init__") (qual := e.name ++ ".__init__") (body := e.body) (scope := e.scope) (kV := kV) (doc := doc) (pm := pm) (an := an) (cdv := cdv) (ct := ct) (as := e.params.args) (us := us) (by rw [hl, ← q3]; simp) (by rw [q3]; exact nd)
    rw [q3, ← plain_eq' q2] at this
    exact this
  obtain ⟨oc, od, dV, kV, doc, pm, an, cdv, ct, osl, rfl, lk, hcd, hD, hK⟩ := FD.ex
  refine ⟨He.ga K e.name, _, _, e.N, hm, T, xfB_ok x6, fun f hf => of_decide_eq_true (List.all_eq_true.mp x7 f hf), x8, x9, init_fn lk hcd (C8.fnScope_by q1) T hb hbm q4 ?_ x11 (fun g hg => of_decide_eq_true (List.all_eq_true.mp x7 g hg)) q5, hbind, x10, x11⟩
  intro z
  rw [z] at x12
  cases x12
theorem wld_of [Gh] (ok : L.okB = true) (X : K.In h) (G : h.Ns mainGlobals mg) (c : He.SaysX L.fa L.fn [] tf L.ex w h K) (clf : CloF) : Wld K mg P w base L.gl L.m0 := by
  have ok0 := ok
  unfold LawD.okB at ok0
  simp only [Bool.and_eq_true, decide_eq_true_eq] at ok0
  obtain ⟨⟨⟨⟨⟨⟨⟨⟨⟨o1, _⟩, _⟩, _⟩, _⟩, _⟩, _⟩, _⟩, _⟩, _⟩ := ok0
  have mr := c.more
  unfold LawD.ex at mr
  simp only [Bool.and_eq_true, Bool.or_eq_true] at mr
  obtain ⟨⟨⟨m1, m2⟩, m3⟩, m4⟩ := mr
  have gd : ∀ d ∈ L.defs, mg d.name = some (.ref (He.ga K d.name)) := fun d hd => He.glo_ok X G (c.t.d.facts (by
    unfold LawD.fa
    simp only [List.mem_append, List.mem_map]
    exact .inl (.inl (.inl ⟨d, hd, rfl⟩))))
  have ge : ∀ e ∈ L.excs, mg e.name = some (.ref (He.ga K e.name)) := fun e he => He.glo_ok X G (c.t.d.facts (by
    unfold LawD.fa
    simp only [List.mem_append, List.mem_map]
    exact .inl (.inl (.inr ⟨e, he, rfl⟩))))
  have fd : ∀ d ∈ L.defs, ∃ f, FunD K d.name d.name d.params d.body d.scope [] [] (He.ga K d.name) f := fun d hd => c.t.d.defs (d := ⟨(d.name, none), d.name, d.name, d.params, d.body, d.scope, [], []⟩) (by
    unfold LawD.fn
    simp only [List.mem_append, List.mem_map]
    exact .inl (.inl ⟨d, hd, rfl⟩))
  constructor
  case con =>
    intro x d hx
    have hx' : (if L.defs.any (fun d => decide (d.name = x)) then some (Ev.D.fn x) else none) = some d := hx
    split at hx'
    · rename_i ha
      cases hx'
      obtain ⟨d, hd, e⟩ := List.any_eq_true.mp ha
      have e := of_decide_eq_true e
      subst e
      obtain ⟨f, F⟩ := fd d hd
      refine ⟨.ref (He.ga K d.name), .ref (He.ga K d.name), gd d hd, rfl, fun W μ => ?_⟩
      simp only [Rpa, Rp]
      exact ⟨_, rfl, gd d hd, F.kp⟩
    · cases hx'
  case isa => exact ⟨(fun c t b C T z => by cases z), (fun t T z => by cases z)⟩
  case cns => exact fun c hc => by cases hc
  case bn => exact fun b hb => He.free_ok X G (c.t.d.facts (by
    unfold LawD.fa
    simp only [List.mem_append, List.mem_map]
    exact .inr ⟨b, hb, rfl⟩))
  case gcd =>
    intro hg
    have hg' : L.gcd = true := hg
    rw [hg'] at m3
    have m3 := of_decide_eq_true (m3.resolve_left (by simp))
    exact PySem.W.mg_of X G m3
  case fns =>
    intro f hf
    obtain ⟨d, hd, rfl⟩ := List.mem_map.mp (show f ∈ L.defs.map (·.name) from hf)
    obtain ⟨fd, F⟩ := fd d hd
    exact ⟨_, gd d hd, F.kp⟩
  case exc =>
    intro cn hc
    obtain ⟨e, he, rfl⟩ := List.mem_map.mp (show cn ∈ L.excs.map (·.name) from hc)
    refine ⟨e.fs, ?_, exc_ok ok X G c he⟩
    unfold LawD.okB at ok
    simp only [Bool.and_eq_true, decide_eq_true_eq] at ok
    have nd := ok.2
    have : ∀ {l : List Xn}, (l.map (·.name)).Nodup → e ∈ l → (l.map fun e => (e.name, e.fs)).lookup e.name = some e.fs := by
      intro l
      induction l with
      | nil => intro _ h; cases h
      | cons x l ih =>
        intro n hm
        obtain ⟨n1, n2⟩ := List.nodup_cons.mp n
        rw [List.map_cons, List.lookup_cons]
        rcases List.mem_cons.mp hm with q | hm
        · subst q
          simp
        · have : (e.name == x.name) = false := by
            have : e.name ≠ x.name := fun q => n1 (by show x.name ∈ _; rw [← q]; exact List.mem_map_of_mem hm)
            simpa using this
          rw [this]
          exact ih n2 hm
    exact this nd he
  case exm =>
    intro c1 c2 h1 h2 A B hA hB
    obtain ⟨fs, hfs⟩ := Option.isSome_iff_exists.mp h1
    obtain ⟨e1, he1, rfl, _⟩ := look_map (show (L.excs.map fun e => (e.name, e.fs)).lookup c1 = some fs from hfs)
    obtain ⟨e2, he2, rfl⟩ := List.mem_map.mp (show c2 ∈ L.excs.map (·.name) from h2)
    rw [ge e1 he1] at hA
    rw [ge e2 he2] at hB
    cases hA
    cases hB
    exact of_decide_eq_true (List.all_eq_true.mp (List.all_eq_true.mp m4 e1 he1) e2 he2)
  case clf => exact clf
  case top => rfl
  case fn =>
    intro f F hf
    obtain ⟨d, hd, rfl, rfl⟩ := look_map (show (L.defs.map fun d => (d.name, d.F)).lookup f = some F from hf)
    refine ⟨d, rfl, List.all_eq_true.mp o1 d hd, fun a ha => ?_⟩
    rw [gd d hd] at ha
    cases ha
    exact fd d hd
end
end Ev
end
section
set_option Elab.async false
set_option linter.all false
set_option maxRecDepth 100000
set_option maxHeartbeats 1000003
namespace Ev
open PySem PySem.Spec PyProof.Rows L2
theorem cells_apart : ∀ {names : List (Str × NameKind)} {n : Nat} {acc : List (Str × Addr)}, (∀ p ∈ acc, @LT.lt Nat _ p.2 n) → (acc.map (·.2)).Nodup → ((cellsFrom n names acc).map (·.2)).Nodup
  | [], _, _, _, nd => nd
  | (y, kd) :: r, n, acc, hl, nd => by
    unfold cellsFrom
    split
    · refine cells_apart (fun p hp => ?_) ?_
      · rcases List.mem_cons.mp hp with e | hp
        · subst e
          exact Nat.lt_succ_self n
        · exact Nat.lt_succ_of_lt (hl p hp)
      · rw [List.map_cons, List.nodup_cons]
        refine ⟨fun hm => ?_, nd⟩
        obtain ⟨p, hp, e⟩ := List.mem_map.mp hm
        have h1 := hl p hp
        have e' : p.2 = n := e
        rw [e'] at h1
        exact Nat.lt_irrefl _ h1
    · exact cells_apart hl nd
theorem apart_inj : ∀ {l : List (Str × Addr)} {x y : Str} {a : Addr}, (l.map (·.2)).Nodup → (x, a) ∈ l → (y, a) ∈ l → x = y
  | [], _, _, _, _, h, _ => nomatch h
  | p :: l, x, y, a, nd, h1, h2 => by
    obtain ⟨n1, n2⟩ := List.nodup_cons.mp nd
    rcases List.mem_cons.mp h1 with e1 | h3 <;> rcases List.mem_cons.mp h2 with e2 | h4
    · rw [← e1] at e2
      cases e2
      rfl
    · subst e1
      exact absurd (show (x, a).2 ∈ l.map (·.2) from List.mem_map_of_mem (f := (·.2)) h4) n1
    · subst e2
      exact absurd (show (y, a).2 ∈ l.map (·.2) from List.mem_map_of_mem (f := (·.2)) h3) n1
    · exact apart_inj n2 h3 h4
section
variable [Gh] {K : PySem.W.Frag} {mg : Str → Option Value} {P : Program} {w : World} {base : Heap} {G : Gl} {m0 : MC}
/-- all defs and closures, at every depth -/
theorem all_ok (Z : Wld K mg P w base G m0) (CI : ∀ l f o c oc, Gh.P l f o c oc → LamI G m0 l f o c oc) (nc : ∀ f, G.cls f = none) : ∀ k, (∀ f a, mg f = some (.ref a) → FnC K mg P w base (k + 3) a ((orcAt G k).fn f)) ∧ ∀ l, CloC K mg P w base (k + 3) l ((orcAt G k).clo l)
  | 0 => ⟨fun f a _ A outer s H us vs Q E hr e0 r ⟨FF, st, W, μ, ds, S, rp, p⟩ => False.elim p, fun l A outer s H f Q E hr e0 ⟨FF, st, W, μ, S, r, p⟩ => False.elim p⟩
  | k + 1 => by
    obtain ⟨F1, F2⟩ := all_ok Z CI nc k
    refine ⟨fun f a ha => ?_, clo_ok Z CI F1 F2⟩
    cases hf : G.fn f with
    | some F => exact def_ok Z F1 F2 hf ha
    | none =>
      rintro A outer s H us vs Q E hr e0 r ⟨FF, st, W, μ, ds, S, rp, p⟩
      simp only [orcAt, hf, nc] at p
      exact False.elim p
end
theorem ctx_top [Gh] {C : Cx'} {m : MC} {X : Cx} {WE : WX} {k : Nat} (c : CtxOk C m X WE k) (t : TopOk { m with top := true } X) : CtxOk C { m with top := true } X WE k :=
  ⟨c.hN, c.nd, c.hsc, c.calm, c.room, c.tk, c.tl, c.con, c.isa, c.cns, c.bn, c.gcd, c.fns, c.fnc, c.clo, c.clf, fun _ => t, c.k2, c.exc, c.exm⟩
/-- the law's run by its terms -/
def LawD.run (L : LawD) (k : Nat) (ns : List Int) : R Fl := evSs ⟨L.gl.con, L.gl.isa, L.gl.exs, orcAt L.gl k, L.gl.wf, none⟩ L.lw.F.body (some (.scr ns) :: List.replicate (L.lw.N.length - 1) none) []
section
variable {L : LawD} {K : PySem.W.Frag} {h : Heap} {mg : Str → Option Value} {P : Program} {w : World} {fa : Addr}
theorem ev_at (ok : L.okB = true) (k : Nat) (hk : Room (k + 4) callerA) (X : K.In h) (G : h.Ns mainGlobals mg) (c : He.SaysX L.fa L.fn [] [("law", none)] L.ex w h K) (hfa : mg "law" = some (.ref fa))
    (ev : ∀ ns : List Int, ns.length ≤ 63 → (∀ z ∈ ns, Builtin.Int.intBits z ≤ 1048576) → ∃ s, L.run k ns = .ok (.rt (.bl true)) s) : EvAt P w K 63 mg fa h := by
  have ok0 := ok
  unfold LawD.okB at ok0
  simp only [Bool.and_eq_true, decide_eq_true_eq] at ok0
  obtain ⟨⟨⟨⟨⟨⟨⟨⟨⟨_, q2⟩, q3⟩, q4⟩, q5⟩, q6⟩, q7⟩, _⟩, _⟩, _⟩ := ok0
  have SC := C8.fnScope_by q2
  have hl : mg "law" = some (.ref (He.ga K "law")) := He.glo_ok X G (c.t.d.facts (by unfold LawD.fa; simp))
  rw [hl] at hfa
  cases hfa
  obtain ⟨fd, FD⟩ := c.t.d.defs (d := ⟨("law", none), "law", "law", L.lw.params, L.lw.body, L.lw.scope, [], []⟩) (by
    unfold LawD.fn
    simp)
  obtain ⟨oc, od, dV, kV, doc, pm, an, cdv, ct, osl, rfl, lk, hcd, hD, hK⟩ := FD.ex
  have hdV : dV = .none := by
    rcases hD with ⟨_, h⟩ | ⟨h, _⟩
    · exact h
    · exact absurd rfl h
  subst hdV
  obtain ⟨cc, rfl⟩ := He.codeIn_ref hcd
  have hcc : He.codeOf K ("law", none) = cc := He.codeOf_eq lk rfl
  have m1 : (("law", none) : He.Defn) ∈ [(("law", none) : He.Defn)] := List.mem_cons_self
  have hd := c.hd _ m1
  have hout := c.out _ m1
  have hemp := c.empty _ m1
  refine ⟨(He.cT K ("law", none)).1, (He.cT K ("law", none)).2, hemp, hout, PySem.W.codeHd_of_K X hd, fun base H s1 a ns hlen hbits M TB hT sq e0 => ?_⟩
  have e1 : (He.cT K ("law", none)).1 = cc := hcc
  rw [e1] at TB
  generalize (He.cT K ("law", none)).2 = T at TB hT
  obtain ⟨sE, hrun⟩ := ev ns hlen hbits
  have hb : BindsTo s1 (PySem.W.fnOf "law" "law" L.lw.params L.lw.body L.lw.scope .none kV doc pm an (.ref cc) ct) ⟨[.ref a], []⟩ ([("script" : Str)].zip [.ref a]) := by
    refine .of_eq ?_
    have hps : L.lw.params.args.map (·.arg) = [("script" : Str)] := q4
    have := bind_plain (name := "law") (qual := "law") (body := L.lw.body) (scope := L.lw.scope) (kV := kV) (doc := doc) (pm := pm) (an := an) (cdv := .ref cc) (ct := ct) (as := L.lw.params.args) (us := [.ref a]) (by
      have := congrArg List.length hps
      simpa using this.symm) (by rw [hps]; decide)
    rw [hps, ← plain_eq' q3] at this
    exact this
  let cells : List (Str × Addr) := cellsFrom (s1.heap.objs.size + 1) L.lw.scope.names []
  have cinj : ∀ x y a, cells.lookup x = some a → cells.lookup y = some a → x = y := fun x y a h1 h2 => apart_inj (cells_apart (names := L.lw.scope.names) (n := s1.heap.objs.size + 1) (acc := []) (fun p hp => nomatch hp) List.nodup_nil) (PySem.mem_of_lookup h1) (PySem.mem_of_lookup h2)
  let X0 : Cx := cxOf (L2.CX P w) P w K mg base L.lw.N "law" L.lw.scope (He.ga K "law") (.ref cc) callerA [] s1 H fun _ _ _ => False
  letI gh : Gh := {
    S := fun i => match L.lw.N[i]? with
      | some y => cells.lookup y
      | none => none
    P := fun l f o c' oc => ∃ ps b sc pm ctv, noParB ps = true ∧ lamB L.lw.scope sc = true ∧ mtL L.mL l b sc = true ∧ o = cellO f (PySem.W.kla_obj "<lambda>" (X0.env.qual ++ "<lambda>") ps b sc (cloFrom X0.env.cells sc.names []) pm c' ctv) ∧ oc = LamX.CodeO c' (X0.env.qual ++ "<lambda>") }
  have hS : ∀ i a, Gh.S i = some a → ∃ y, L.lw.N[i]? = some y ∧ cells.lookup y = some a := fun i a hi => by
    have hi' : (match L.lw.N[i]? with
      | some y => cells.lookup y
      | none => none) = some a := hi
    cases e : L.lw.N[i]? with
    | none => rw [e] at hi'; cases hi'
    | some y =>
      rw [e] at hi'
      exact ⟨y, rfl, hi'⟩
  have hSj : ∀ i j a, Gh.S i = some a → Gh.S j = some a → i = j := fun i j a h1 h2 => by
    obtain ⟨y, e1, c1⟩ := hS i a h1
    obtain ⟨z, e2, c2⟩ := hS j a h2
    have := cinj y z a c1 c2
    subst this
    exact nodup_ix SC.nd e1 e2
  have CI : ∀ l f o c' oc, Gh.P l f o c' oc → LamI L.gl L.m0 l f o c' oc := fun l f o c' oc ⟨ps, b, sc, pm, ctv, h1, h2, h3, ho, hoc⟩ => by
    unfold mtL at h3
    cases hL : L.mL.lam l with
    | none => rw [hL] at h3; cases h3
    | some Lm =>
      rw [hL] at h3
      simp only [Bool.and_eq_true, decide_eq_true_eq] at h3
      obtain ⟨⟨k1, k2⟩, k3⟩ := h3
      have h2' := h2
      unfold lamB at h2'
      simp only [Bool.and_eq_true, Bool.not_eq_true', decide_eq_true_eq, List.all_eq_true, Bool.or_eq_true, decide_eq_false_iff_not] at h2'
      obtain ⟨⟨⟨g1, g2⟩, g3⟩, g4⟩ := h2'
      refine ⟨L.lw.N, ps, b, sc, Lm, pm, ctv, cells, _, ⟨hL, h1, g1, g2, g3, fun y hy => (g4 y hy).1, k1, SC.nd, k2, fun y hy hf => ?_⟩, ho, hoc, cinj, hS, hSj⟩
      have := List.all_eq_true.mp k3 y hy
      simp only [Bool.or_eq_true, Bool.not_eq_true', decide_eq_false_iff_not, List.any_eq_true, decide_eq_true_eq] at this
      rcases this with z | ⟨i, hi, e⟩
      · exact absurd hf z
      · exact ⟨i, hi, e⟩
  have clf : CloF := fun l f o c' oc ⟨ps, b, sc, pm, ctv, _, _, _, ho, _⟩ => ⟨_, _, _, _, ho⟩
  have Z : Wld K mg P w base L.gl L.m0 := wld_of ok X G c clf
  obtain ⟨F1, F2⟩ := all_ok Z CI (fun _ => rfl) k
  refine LamX.run_ofS (N := L.lw.N) (ps := ["script"]) (us := [.ref a]) (vs := [.ref a]) lk hcd SC hk e0 hb (.cons rfl .nil) rfl fun hr' => ?_
  have hg : RoomG (k + 3) (callerA.deeper (envOfC "law" L.lw.scope s1.heap.objs.size (He.ga K "law") (.ref cc))) := ⟨hr', by
    simp [Around.deeper, Around.under, callerA]⟩
  have CO := Z.ctx (qual := "law") (f := He.ga K "law") (cdv := .ref cc) (A := callerA) (outer := []) (s := s1) (H := H) (E := fun _ _ _ => False) (by omega) F1 F2 SC hg
  have TO : TopOk L.mL X0 := by
    refine ⟨hS, fun i y hi hy => ?_, fun _ => rfl, hSj, fun l f ps b sc pm c' ctv h1 h2 h3 => ⟨ps, b, sc, pm, ctv, h1, h2, h3, rfl, rfl⟩⟩
    obtain ⟨b, hb⟩ := cell_has (n := s1.heap.objs.size + 1) hy
    refine ⟨b, hb, ?_⟩
    show (match L.lw.N[i]? with
      | some y => cells.lookup y
      | none => none) = some b
    have hi' : L.lw.N[i]? = some y := hi
    rw [hi']
    exact hb
  have CL := ctx_top CO TO
  have SO : StmOk L.mL (cxOf (L2.CX P w) P w K mg base L.lw.N "law" L.lw.scope (He.ga K "law") (.ref cc) callerA [] s1 H fun _ _ _ => False) (foT T (X0.env.qual ++ "<lambda>")) := by
    have z := stm_cx (m0 := L.m0) (K := K) (mg := mg) (P := P) (w := w) (base := base) (qual := "law") (f := He.ga K "law") (cdv := .ref cc) (A := callerA) (outer := []) (s := s1) (H := H) (E := fun _ _ _ => False) SC (fo := foT T (X0.env.qual ++ "<lambda>")) foT_mono
    exact ⟨z.kind, z.own, z.ts, z.fm, z.stk, z.fr⟩
  refine ⟨_, sndSs (fo := foT T (X0.env.qual ++ "<lambda>")) CL SO ⟨fun _ => ⟨cc, T, TB, rfl, rfl⟩⟩ L.lw.F.body L.lw.body q6, ?_⟩
  have SA0 : SA K mg [(T, .tbl #[])] H ⟨fun b => if b = T then none else H b⟩ [] [] := by
    refine ⟨fun b u e => ?_, rfl, fun k o e => by simp at e, fun j k o o' b e => by simp at e, fun p hp => ?_⟩
    · have e' : (if b = T then none else H b) = some u := e
      split at e'
      · cases e'
      · exact e'
    · have : p = (T, .tbl #[]) := by simpa using hp
      subst this
      exact ⟨hT, if_pos rfl, fun k o e => by simp at e⟩
  have sq' : SqL K (fun b => if b = T then none else H b) a (ns.map V.int) := by
    have ne : ∀ {u : HO}, H a = some u → (∀ ps, u ≠ .tbl ps) → (if a = T then none else H a) = some u := fun {u} e n => by
      rw [if_neg]
      · exact e
      · intro z
        rw [z, hT] at e
        cases e
        exact n _ rfl
    rcases sq with (e | ⟨o, e⟩) | e
    · exact .inl (.inl (ne e fun _ z => by cases z))
    · exact .inl (.inr ⟨o, ne e fun _ z => by cases z⟩)
    · exact .inr e
  refine ⟨[(T, .tbl #[])], some (.scr ns) :: List.replicate (L.lw.N.length - 1) none, [], ⟨fun b => if b = T then none else H b⟩, [], ⟨#[], rfl, True.intro, fun pos cv hc => by
    have z : codeAmong pos [] = some cv := hc
    simp [codeAmong] at z⟩, SA0, ?_, ?_⟩
  · have z := start_re (K := K) (mg := mg) (W := ⟨fun b => if b = T then none else H b⟩) (μ := []) (ds := [.scr ns]) (vs := [.ref a]) (N := L.lw.N) (nl := L.lw.N.length) rfl ⟨.ref a, [], rfl, (by simp only [Rpa, Rp]; exact ⟨a, rfl, sq'⟩), rfl⟩
    exact z
  · have hr : evSs ⟨L.gl.con, L.gl.isa, L.gl.exs, orcAt L.gl k, L.gl.wf, none⟩ L.lw.F.body (some (.scr ns) :: List.replicate (L.lw.N.length - 1) none) [] = .ok (.rt (.bl true)) sE := hrun
    rw [hr]
    intro FF' σ' H' W' μ' _ _ _ v rv
    exact rv
end
end Ev
end
section
set_option Elab.async false
set_option linter.all false
set_option maxRecDepth 100000
set_option maxHeartbeats 1000003
namespace Ev
open PySem PySem.Spec PyProof.Rows L2
/-! ### the head's part, the C statics' namespace with it -/
def asE (g : Addr → Option Obj) (n : Nat) : List Addr := PySem.cStatics :: He.asD g n
def frE (g : Addr → Option Obj) (n : Nat) : PySem.W.Frag := He.frT g (asE g n)
def obsE (n : Nat) (fa : List He.Fa) (fn : List He.DefD) (tf : List He.Defn) (ex : PySem.W.Frag → Bool) (g : Addr → Option Obj) : He.AlX := (He.obsT fa fn [] (frE g n), ex (frE g n) && He.tabsB g tf (frE g n))
theorem saysE {n : Nat} {fa : List He.Fa} {fn : List He.DefD} {tf : List He.Defn} {ex : PySem.W.Frag → Bool} {w : World} {h : Heap} (e : obsE n fa fn tf ex h.get? = He.valX fn [] w) : He.SaysX fa fn [] tf ex w h (frE h.get? n) := by
  obtain ⟨m1, m2⟩ := Bool.and_eq_true_iff.mp (show (ex (frE h.get? n) && He.tabsB h.get? tf (frE h.get? n)) = true from congrArg Prod.snd e)
  have tab : ∀ p ∈ tf, PySem.W.codeHdIn (frE h.get? n) (He.cT (frE h.get? n) p).1 (He.cT (frE h.get? n) p).2 = true ∧ ∃ o, h.get? (He.cT (frE h.get? n) p).2 = some o ∧ He.emptyTab o = true := fun p hp => by
    obtain ⟨k1, k2⟩ := Bool.and_eq_true_iff.mp (List.all_eq_true.mp m2 p hp)
    refine ⟨k1, ?_⟩
    cases q : h.get? (He.cT (frE h.get? n) p).2 with
    | none => rw [q] at k2; cases k2
    | some o => rw [q] at k2; exact ⟨o, rfl, k2⟩
  refine ⟨congrArg Prod.fst e, m1, fun p hp => (tab p hp).1, fun p hp => ?_, fun p hp => ?_⟩
  · obtain ⟨o, q, z⟩ := (tab p hp).2
    exact He.frT_none q z
  · obtain ⟨o, q, z⟩ := (tab p hp).2
    rw [q, He.emptyTab_eq z]
def hookE (n : Nat) (fa : List He.Fa) (fn : List He.DefD) (tf : List He.Defn) (ex : PySem.W.Frag → Bool) : PySem.W.Hook where
  α := He.AlX
  obs := fun s => obsE n fa fn tf ex s.heap.get?
  val := fun w => He.valX fn [] w
  says := fun w h => ∃ K : PySem.W.Frag, K.In h ∧ He.SaysX fa fn [] tf ex w h K
  of := fun _ _ e => ⟨_, He.frT_in, saysE e⟩
  keeps := fun _ _ _ ⟨K, hK, c⟩ k => ⟨K, PySem.W.Frag.In.keeps hK k, c.t, c.more, c.hd, c.out, fun p hp => k _ _ (c.empty p hp)⟩
theorem obsE_eq {n : Nat} {fa : List He.Fa} {fn : List He.DefD} {tf : List He.Defn} {ex : PySem.W.Frag → Bool} {g : Addr → Option Obj} {s : Shared} (h : ∀ a, g a = s.heap.get? a) : obsE n fa fn tf ex g = (hookE n fa fn tf ex).obs s := by
  rw [show g = s.heap.get? from funext h]
  rfl
end Ev
end
section
set_option linter.all false
set_option maxRecDepth 100000
namespace Ev
open PySem
/-! ### runs of terms -/
def cxK (G : Gl) (k : Nat) : Cx' := ⟨G.con, G.isa, G.exs, orcAt G k, G.wf, none⟩
def env0 (F : Fn) (xs : List D) : En := xs.map some ++ List.replicate (F.nl - xs.length) none
def plainD : D → Bool
  | .mu _ => false
  | .clo _ => false
  | _ => true
theorem leave_plain {d : D} (h : plainD d = true) (n : Nat) (s : Sto) : leave n d s = .ok d (s.take n) := by
  cases d <;> first | rfl | cases h
theorem take_self {s s' : Sto} (h : s'.length = s.length) : s'.take s.length = s' := by
  rw [← h, List.take_length]
theorem call_def {G : Gl} {k : Nat} {f : Str} {F : Fn} {xs : List D} {s : Sto} (hf : G.fn f = some F) (hd : F.dfl = []) (hl : xs.length = F.np) : (orcAt G (k + 1)).fn f xs s = runB (cxK G k) F xs s := by
  have e : fillA F.np F.dfl xs = some xs := by
    unfold fillA
    rw [hd, if_pos ⟨by omega, by simp; omega⟩]
    simp
  simp only [orcAt, hf, e]
  rfl
/-- a call that hands back plain data -/
theorem call_rt {G : Gl} {k : Nat} {f : Str} {F : Fn} {xs : List D} {s s' : Sto} {d : D} (hf : G.fn f = some F) (hd : F.dfl = []) (hl : xs.length = F.np) (hs : s'.length = s.length) (hp : plainD d = true) (hb : evSs (cxK G k) F.body (env0 F xs) s = .ok (.rt d) s') :
    (orcAt G (k + 1)).fn f xs s = .ok d s' := by
  rw [call_def hf hd hl]
  unfold runB
  have hb' : evSs (cxK G k) F.body (xs.map some ++ List.replicate (F.nl - xs.length) none) s = .ok (.rt d) s' := hb
  rw [hb']
  show leave s.length d s' = _
  rw [leave_plain hp, take_self hs]
/-- a call that raises -/
theorem call_exc {G : Gl} {k : Nat} {f : Str} {F : Fn} {xs : List D} {s s' : Sto} {x : Ex} (hf : G.fn f = some F) (hd : F.dfl = []) (hl : xs.length = F.np) (hs : s'.length = s.length) (hb : evSs (cxK G k) F.body (env0 F xs) s = .exc x s') :
    (orcAt G (k + 1)).fn f xs s = .exc x s' := by
  rw [call_def hf hd hl]
  unfold runB
  have hb' : evSs (cxK G k) F.body (xs.map some ++ List.replicate (F.nl - xs.length) none) s = .exc x s' := hb
  rw [hb']
  show R.exc x (s'.take s.length) = _
  rw [take_self hs]
/-! ### steps -/
section
variable {X : Cx'} {e e' : En} {s s1 s2 s3 : Sto} {a b c : E} {es : Es} {r : Ss} {d x y : D} {xs : List D} {RF : R Fl} {RD : R D} {RB : R Bool}
theorem r_cons {a : S} (h1 : evS X a e s = .ok (.nx e') s1) (h2 : evSs X r e' s1 = RF) : evSs X (.cons a r) e s = RF := by
  show bnd (evS X a e) _ s = _
  rw [bnd_ok h1]
  exact h2
theorem r_last {a : S} {d : D} (h1 : evS X a e s = .ok (.rt d) s1) : evSs X (.cons a r) e s = .ok (.rt d) s1 := by
  show bnd (evS X a e) _ s = _
  rw [bnd_ok h1]
  rfl
theorem r_stop {a : S} {x : Ex} (h1 : evS X a e s = .exc x s1) : evSs X (.cons a r) e s = .exc x s1 := by
  show bnd (evS X a e) _ s = _
  unfold bnd
  rw [h1]
theorem r_brk {a : S} (h1 : evS X a e s = .ok (.bk e') s1) : evSs X (.cons a r) e s = .ok (.bk e') s1 := by
  show bnd (evS X a e) _ s = _
  rw [bnd_ok h1]
  rfl
theorem r_ite {t : T} {u v : Ss} {q : Bool} (h1 : evT X t e s = .ok q s1) (h2 : cond q (evSs X u e s1) (evSs X v e s1) = RF) : evS X (.ite t u v) e s = RF := by
  show bnd (evT X t e) _ s = _
  rw [bnd_ok h1]
  cases q <;> exact h2
/-- an if that goes by -/
theorem r_by {t : T} {u : Ss} (h1 : evT X t e s = .ok false s1) (h2 : evSs X r e s1 = RF) : evSs X (.cons (.ite t u .nil) r) e s = RF := r_cons (r_ite h1 rfl) h2
/-- an if that ends the run -/
theorem r_in {t : T} {u v : Ss} (h1 : evT X t e s = .ok true s1) (h2 : evSs X u e s1 = .ok (.rt d) s2) : evSs X (.cons (.ite t u v) r) e s = .ok (.rt d) s2 := r_last (r_ite h1 h2)
theorem r_rtn (h1 : evE X a e s = .ok d s1) : evSs X (.cons (.rtn a) r) e s = .ok (.rt d) s1 := by
  show bnd (bnd (evE X a e) _) _ s = _
  rw [bnd_bnd, bnd_ok h1]
  rfl
theorem r_rtnX {x : Ex} (h1 : evE X a e s = .exc x s1) : evSs X (.cons (.rtn a) r) e s = .exc x s1 := by
  show bnd (bnd (evE X a e) _) _ s = _
  unfold bnd
  rw [h1]
theorem r_set {i : Nat} (h1 : evE X a e s = .ok d s1) (h2 : evSs X r (setE e i d) s1 = RF) : evSs X (.cons (.asg (.name i) a) r) e s = RF := by
  show bnd (bnd (evE X a e) _) _ s = _
  rw [bnd_bnd, bnd_ok h1]
  exact h2
theorem r_asg {t : Tg} (h1 : evE X a e s = .ok d s1) (h2 : asgA t (evE X) d e s1 = .ok e' s2) (h3 : evSs X r e' s2 = RF) : evSs X (.cons (.asg t a) r) e s = RF := by
  show bnd (bnd (evE X a e) _) _ s = _
  rw [bnd_bnd, bnd_ok h1, bnd_bnd, bnd_ok h2]
  exact h3
theorem r_par {is : List Nat} (h1 : evEs X es e s = .ok xs s1) (h2 : setEs e is xs = some e') (h3 : evSs X r e' s1 = RF) : evSs X (.cons (.par is es) r) e s = RF := by
  show bnd (bnd (evEs X es e) _) _ s = _
  rw [bnd_bnd, bnd_ok h1]
  show bnd (match setEs e is xs with | some e' => ret (Fl.nx e') | none => no) _ s1 = _
  rw [h2]
  exact h3
theorem r_exp (h1 : evE X a e s = .ok d s1) (h2 : evSs X r e s1 = RF) : evSs X (.cons (.exp a) r) e s = RF := by
  show bnd (bnd (evE X a e) _) _ s = _
  rw [bnd_bnd, bnd_ok h1]
  exact h2
theorem r_rse {cn : Str} {fs : List Str} {ys : List D} (h1 : evEs X es e s = .ok xs s1) (h2 : frzDs xs s1 = .ok ys s2) (h3 : X.exs cn = some fs) (h4 : fs.length = ys.length) : evSs X (.cons (.rse cn es) r) e s = .exc ⟨cn, fs, ys⟩ s2 := by
  show bnd (bnd (evEs X es e) _) _ s = _
  rw [bnd_bnd, bnd_ok h1, bnd_bnd, bnd_ok h2]
  show bnd (match X.exs cn with | some fs => if decide (fs.length = ys.length) then thr ⟨cn, fs, ys⟩ else no | none => no) _ s2 = _
  rw [h3]
  simp only [h4, decide_true, if_true]
  rfl
/-- values -/
theorem r_es1 (h1 : evE X a e s = .ok d s1) : evEs X (.cons a .nil) e s = .ok [d] s1 := by
  show bnd (evE X a e) _ s = _
  rw [bnd_ok h1]
  rfl
theorem r_esc (h1 : evE X a e s = .ok d s1) (h2 : evEs X es e s1 = .ok xs s2) : evEs X (.cons a es) e s = .ok (d :: xs) s2 := by
  show bnd (evE X a e) _ s = _
  rw [bnd_ok h1, bnd_ok h2]
  rfl
theorem r_esX {x : Ex} (h1 : evE X a e s = .exc x s1) : evEs X (.cons a es) e s = .exc x s1 := by
  show bnd (evE X a e) _ s = _
  unfold bnd
  rw [h1]
theorem r_esXc {x : Ex} (h1 : evE X a e s = .ok d s1) (h2 : evEs X es e s1 = .exc x s2) : evEs X (.cons a es) e s = .exc x s2 := by
  show bnd (evE X a e) _ s = _
  rw [bnd_ok h1]
  unfold bnd
  rw [h2]
theorem r_call {f : Str} (h1 : evEs X es e s = .ok xs s1) (h2 : X.orc.fn f xs s1 = RD) : evE X (.call f es) e s = RD := by
  show bnd (evEs X es e) _ s = _
  rw [bnd_ok h1]
  exact h2
theorem r_callX {f : Str} {x : Ex} (h1 : evEs X es e s = .exc x s1) : evE X (.call f es) e s = .exc x s1 := by
  show bnd (evEs X es e) _ s = _
  unfold bnd
  rw [h1]
theorem r_parX {is : List Nat} {x : Ex} (h1 : evEs X es e s = .exc x s1) : evSs X (.cons (.par is es) r) e s = .exc x s1 := by
  show bnd (bnd (evEs X es e) _) _ s = _
  unfold bnd
  rw [h1]
theorem r_bi {f : Bf} (h1 : evEs X es e s = .ok xs s1) (h2 : biD f xs s1 = RD) : evE X (.bi f es) e s = RD := by
  show bnd (evEs X es e) _ s = _
  rw [bnd_ok h1]
  exact h2
theorem r_bin {op : Operator} (h1 : evE X a e s = .ok x s1) (h2 : evE X b e s1 = .ok y s2) (h3 : binD op x y s2 = RD) : evE X (.bin op a b) e s = RD := by
  show bnd (evE X a e) _ s = _
  rw [bnd_ok h1, bnd_ok h2]
  exact h3
theorem r_neg {i : Int} (h1 : evE X a e s = .ok (.int i) s1) : evE X (.neg a) e s = .ok (.int (-i)) s1 := by
  show bnd (evE X a e) _ s = _
  rw [bnd_ok h1]
  rfl
theorem r_cmp {op : CmpOp} {q : Bool} (h1 : evE X a e s = .ok x s1) (h2 : evE X b e s1 = .ok y s2) (h3 : cmpD op x y s2 = .ok q s3) : evE X (.cmp op a b) e s = .ok (.bl q) s3 := by
  show bnd (evE X a e) _ s = _
  rw [bnd_ok h1, bnd_ok h2, bnd_ok h3]
  rfl
theorem r_and {q : Bool} (h1 : evE X a e s = .ok (.bl q) s1) (h2 : cond q (evE X b e s1) (.ok (.bl false) s1) = RD) : evE X (.andv a b) e s = RD := by
  show bnd (blM (evE X a e)) _ s = _
  unfold blM
  rw [bnd_bnd, bnd_ok h1]
  cases q <;> exact h2
theorem r_or {q : Bool} (h1 : evE X a e s = .ok (.bl q) s1) (h2 : cond q (.ok (.bl true) s1) (evE X b e s1) = RD) : evE X (.orv a b) e s = RD := by
  show bnd (blM (evE X a e)) _ s = _
  unfold blM
  rw [bnd_bnd, bnd_ok h1]
  cases q <;> exact h2
theorem r_ife {t : T} {q : Bool} (h1 : evT X t e s = .ok q s1) (h2 : cond q (evE X a e s1) (evE X b e s1) = RD) : evE X (.ife t a b) e s = RD := by
  show bnd (evT X t e) _ s = _
  rw [bnd_ok h1]
  cases q <;> exact h2
theorem r_ix (h1 : evE X a e s = .ok x s1) (h2 : evE X b e s1 = .ok y s2) (h3 : getD x y s2 = RD) : evE X (.ix a b) e s = RD := by
  show bnd (evE X a e) _ s = _
  rw [bnd_ok h1, bnd_ok h2]
  exact h3
theorem r_tup {ys : List D} (h1 : evEs X es e s = .ok xs s1) (h2 : frzDs xs s1 = .ok ys s2) : evE X (.tup es) e s = .ok (.tup ys) s2 := by
  show bnd (evEs X es e) _ s = _
  rw [bnd_ok h1, bnd_ok h2]
  rfl
theorem r_lst {m : Bool} {ys : List D} (h1 : evEs X es e s = .ok xs s1) (h2 : frzDs xs s1 = .ok ys s2) (h3 : alloc m (.lst ys) s2 = RD) : evE X (.lst m es) e s = RD := by
  show bnd (evEs X es e) _ s = _
  rw [bnd_ok h1, bnd_ok h2]
  exact h3
theorem r_not {q : Bool} (h1 : evE X a e s = .ok x s1) (h2 : truD x s1 = some q) : evE X (.notv a) e s = .ok (.bl (!q)) s1 := by
  show bnd (evE X a e) _ s = _
  rw [bnd_ok h1]
  show (match truD x s1 with | some r => R.ok (D.bl (!r)) s1 | none => R.no) = _
  rw [h2]
/-- tests -/
theorem tt_val {q : Bool} (h1 : evE X a e s = .ok x s1) (h2 : truD x s1 = some q) : evT X (.val a) e s = .ok q s1 := by
  show bnd (evE X a e) _ s = _
  rw [bnd_ok h1]
  show (match truD x s1 with | some r => R.ok r s1 | none => R.no) = _
  rw [h2]
theorem tt_cmp {op : CmpOp} {q : Bool} (h1 : evE X a e s = .ok x s1) (h2 : evE X b e s1 = .ok y s2) (h3 : cmpD op x y s2 = .ok q s3) : evT X (.cmp op a b) e s = .ok q s3 := by
  show bnd (evE X a e) _ s = _
  rw [bnd_ok h1, bnd_ok h2]
  exact h3
theorem tt_and {t u : T} {q : Bool} (h1 : evT X t e s = .ok q s1) (h2 : cond q (evT X u e s1) (.ok false s1) = RB) : evT X (.and t u) e s = RB := by
  show bnd (evT X t e) _ s = _
  rw [bnd_ok h1]
  cases q <;> exact h2
theorem tt_or {t u : T} {q : Bool} (h1 : evT X t e s = .ok q s1) (h2 : cond q (.ok true s1) (evT X u e s1) = RB) : evT X (.or t u) e s = RB := by
  show bnd (evT X t e) _ s = _
  rw [bnd_ok h1]
  cases q <;> exact h2
theorem tt_not {t : T} {q : Bool} (h1 : evT X t e s = .ok q s1) : evT X (.not t) e s = .ok (!q) s1 := by
  show bnd (evT X t e) _ s = _
  rw [bnd_ok h1]
  rfl
end
/-! ### loops -/
section
variable {X : Cx'} {s : Sto}
/-- every turn goes on -/
theorem loopF_all {f : D → En → M Fl} : ∀ {xs : List D} {I : Nat → En → Sto → Prop} {i : Nat} {e : En} {s : Sto}, (∀ j x e s, xs[j]? = some x → I (i + j) e s → ∃ e' s', f x e s = .ok (.nx e') s' ∧ I (i + j + 1) e' s') → I i e s → ∃ e' s', loopF f xs e s = .ok (.nx e') s' ∧ I (i + xs.length) e' s'
  | [], I, i, e, s, _, h => ⟨e, s, rfl, h⟩
  | x :: xs, I, i, e, s, hs, h => by
    obtain ⟨e1, s1, h1, h2⟩ := hs 0 x e s rfl h
    obtain ⟨e2, s2, h3, h4⟩ := loopF_all (xs := xs) (I := I) (i := i + 1) (fun j y e s hj hi => by
      have := hs (j + 1) y e s (by simpa using hj) (by rw [← Nat.add_assoc, Nat.add_right_comm]; exact hi)
      rw [show i + 1 + j + 1 = i + (j + 1) + 1 by omega]
      exact this) h2
    refine ⟨e2, s2, ?_, by rw [List.length_cons, show i + (xs.length + 1) = i + 1 + xs.length by omega]; exact h4⟩
    show bnd (f x e) _ s = _
    rw [bnd_ok h1]
    exact h3
theorem loopF_nx {f : D → En → M Fl} {x : D} {xs : List D} {e e' : En} {s s' : Sto} {RF : R Fl} (h1 : f x e s = .ok (.nx e') s') (h2 : loopF f xs e' s' = RF) : loopF f (x :: xs) e s = RF := by
  show bnd (f x e) _ s = _
  rw [bnd_ok h1]
  exact h2
theorem loopF_bk {f : D → En → M Fl} {x : D} {xs : List D} {e e' : En} {s s' : Sto} (h1 : f x e s = .ok (.bk e') s') : loopF f (x :: xs) e s = .ok (.nx e') s' := by
  show bnd (f x e) _ s = _
  rw [bnd_ok h1]
  rfl
/-- one turn of a for loop's text -/
def forT (X : Cx') (t : Tg) (b : Ss) (x : D) (e : En) : M Fl := match asgP t x e with
  | some e' => evSs X b e'
  | none => no
theorem r_for {t : Tg} {it : It} {b r : Ss} {e e' : En} {s s1 s2 : Sto} {xs : List D} {RF : R Fl} (h1 : evIt X it e s = .ok xs s1) (h2 : loopF (forT X t b) xs e s1 = .ok (.nx e') s2) (h3 : evSs X r e' s2 = RF) : evSs X (.cons (.for_ t it b) r) e s = RF := by
  show bnd (bnd (evIt X it e) (fun xs => loopF (forT X t b) xs e)) _ s = _
  rw [bnd_bnd, bnd_ok h1, bnd_ok h2]
  exact h3
end
end Ev
end
section
set_option linter.all false
set_option maxRecDepth 100000
namespace L_k02
open PySem Ev
def F_is_whole : Fn := { np := 1, nl := 1, body :=
  (.cons (.rtn (.andv (.isi (.v 0) [.ty "int"]) (.notv (.isi (.v 0) [.ty "bool"]))))
  .nil) }
def F_is_pair : Fn := { np := 1, nl := 1, body :=
  (.cons (.ite (.or (.not (.val (.isi (.v 0) [.ty "tuple", .ty "list"]))) (.cmp .NotEq (.bi .len (.cons (.v 0) .nil)) (.c (.int 2)))) (.cons (.rtn (.c (.bl false)))
  .nil) .nil)
  (.cons (.rtn (.andv (.call "is_whole" (.cons (.ix (.v 0) (.c (.int 0))) .nil)) (.andv (.call "is_whole" (.cons (.ix (.v 0) (.c (.int 1))) .nil)) (.cmp .Gt (.ix (.v 0) (.c (.int 1))) (.c (.int 0))))))
  .nil)) }
def F_is_ratio : Fn := { np := 1, nl := 1, body :=
  (.cons (.rtn (.orv (.call "is_whole" (.cons (.v 0) .nil)) (.andv (.isi (.v 0) [.ty "tuple"]) (.call "is_pair" (.cons (.v 0) .nil)))))
  .nil) }
def F_lowest : Fn := { np := 2, nl := 3, body :=
  (.cons (.asg (.name 2) (.ife (.cmp .Gt (.v 1) (.c (.int 0))) (.bi .gcd (.cons (.v 0) (.cons (.v 1) .nil))) (.neg (.bi .gcd (.cons (.v 0) (.cons (.v 1) .nil))))))
  (.cons (.rtn (.tup (.cons (.bin .FloorDiv (.v 0) (.v 2)) (.cons (.bin .FloorDiv (.v 1) (.v 2)) .nil))))
  .nil)) }
def F_told : Fn := { np := 1, nl := 1, body :=
  (.cons (.ite (.val (.call "is_whole" (.cons (.v 0) .nil))) (.cons (.rtn (.tup (.cons (.v 0) (.cons (.c (.int 1)) .nil))))
  .nil) .nil)
  (.cons (.ite (.not (.val (.call "is_pair" (.cons (.v 0) .nil)))) (.cons (.rse "BadRow" (.cons (.v 0) .nil))
  .nil) .nil)
  (.cons (.rtn (.call "lowest" (.cons (.ix (.v 0) (.c (.int 0))) (.cons (.ix (.v 0) (.c (.int 1))) .nil))))
  .nil))) }
def F_summed : Fn := { np := 2, nl := 2, body :=
  (.cons (.rtn (.call "lowest" (.cons (.bin .Add (.bin .Mult (.ix (.v 0) (.c (.int 0))) (.ix (.v 1) (.c (.int 1)))) (.bin .Mult (.ix (.v 1) (.c (.int 0))) (.ix (.v 0) (.c (.int 1))))) (.cons (.bin .Mult (.ix (.v 0) (.c (.int 1))) (.ix (.v 1) (.c (.int 1)))) .nil))))
  .nil) }
def F_lessened : Fn := { np := 2, nl := 2, body :=
  (.cons (.rtn (.call "lowest" (.cons (.bin .Sub (.bin .Mult (.ix (.v 0) (.c (.int 0))) (.ix (.v 1) (.c (.int 1)))) (.bin .Mult (.ix (.v 1) (.c (.int 0))) (.ix (.v 0) (.c (.int 1))))) (.cons (.bin .Mult (.ix (.v 0) (.c (.int 1))) (.ix (.v 1) (.c (.int 1)))) .nil))))
  .nil) }
def F_scaled : Fn := { np := 2, nl := 2, body :=
  (.cons (.rtn (.call "lowest" (.cons (.bin .Mult (.ix (.v 0) (.c (.int 0))) (.ix (.v 1) (.c (.int 0)))) (.cons (.bin .Mult (.ix (.v 0) (.c (.int 1))) (.ix (.v 1) (.c (.int 1)))) .nil))))
  .nil) }
def F_parted : Fn := { np := 2, nl := 2, body :=
  (.cons (.rtn (.call "lowest" (.cons (.bin .Mult (.ix (.v 0) (.c (.int 0))) (.ix (.v 1) (.c (.int 1)))) (.cons (.bin .Mult (.ix (.v 0) (.c (.int 1))) (.ix (.v 1) (.c (.int 0)))) .nil))))
  .nil) }
def F_below : Fn := { np := 2, nl := 2, body :=
  (.cons (.rtn (.cmp .Lt (.bin .Mult (.ix (.v 0) (.c (.int 0))) (.ix (.v 1) (.c (.int 1)))) (.bin .Mult (.ix (.v 1) (.c (.int 0))) (.ix (.v 0) (.c (.int 1))))))
  .nil) }
def F_plus : Fn := { np := 2, nl := 4, body :=
  (.cons (.par [2, 3] (.cons (.call "told" (.cons (.v 0) .nil)) (.cons (.call "told" (.cons (.v 1) .nil)) .nil)))
  (.cons (.rtn (.call "summed" (.cons (.v 2) (.cons (.v 3) .nil))))
  .nil)) }
def F_minus : Fn := { np := 2, nl := 4, body :=
  (.cons (.par [2, 3] (.cons (.call "told" (.cons (.v 0) .nil)) (.cons (.call "told" (.cons (.v 1) .nil)) .nil)))
  (.cons (.rtn (.call "lessened" (.cons (.v 2) (.cons (.v 3) .nil))))
  .nil)) }
def F_times : Fn := { np := 2, nl := 4, body :=
  (.cons (.par [2, 3] (.cons (.call "told" (.cons (.v 0) .nil)) (.cons (.call "told" (.cons (.v 1) .nil)) .nil)))
  (.cons (.rtn (.call "scaled" (.cons (.v 2) (.cons (.v 3) .nil))))
  .nil)) }
def F_share : Fn := { np := 2, nl := 4, body :=
  (.cons (.par [2, 3] (.cons (.call "told" (.cons (.v 0) .nil)) (.cons (.call "told" (.cons (.v 1) .nil)) .nil)))
  (.cons (.ite (.cmp .Eq (.ix (.v 3) (.c (.int 0))) (.c (.int 0))) (.cons (.rse "BadNumber" (.cons (.c (.str "share")) (.cons (.c (.int 0)) .nil)))
  .nil) .nil)
  (.cons (.rtn (.call "parted" (.cons (.v 2) (.cons (.v 3) .nil))))
  .nil))) }
def F_less : Fn := { np := 2, nl := 4, body :=
  (.cons (.par [2, 3] (.cons (.call "told" (.cons (.v 0) .nil)) (.cons (.call "told" (.cons (.v 1) .nil)) .nil)))
  (.cons (.rtn (.call "below" (.cons (.v 2) (.cons (.v 3) .nil))))
  .nil)) }
def F__law_pen : Fn := { np := 1, nl := 3, body :=
  (.cons (.asg (.name 1) (.c (.int 0)))
  (.cons (.for_ (.name 2) (.seq (.v 0)) (.cons (.asg (.name 1) (.bin .Mod (.bi .int (.cons (.bin .Add (.bin .Mult (.v 1) (.c (.int 191))) (.v 2)) .nil)) (.c (.int 999999137))))
  .nil))
  (.cons (.rtn (.dct true [.inr "cells", .inr "at", .inr "digits", .inr "count", .inr "fold"] (.cons (.mkb .list false (.cons (.v 0) .nil)) (.cons (.c (.int 0)) (.cons (.c (.int 0)) (.cons (.c (.int 0)) (.cons (.v 1) .nil)))))))
  .nil))) }
def F__law_draw : Fn := { np := 2, nl := 5, body :=
  (.cons (.asg (.ix (.v 0) (.c (.str "count"))) (.bin .Add (.ix (.v 0) (.c (.str "count"))) (.c (.int 1))))
  (.cons (.ite (.and (.cmp .Eq (.ix (.v 0) (.c (.str "digits"))) (.c (.int 0))) (.cmp .Lt (.ix (.v 0) (.c (.str "at"))) (.bi .len (.cons (.ix (.v 0) (.c (.str "cells"))) .nil)))) (.cons (.asg (.name 2) (.ix (.ix (.v 0) (.c (.str "cells"))) (.ix (.v 0) (.c (.str "at")))))
  (.cons (.asg (.ix (.v 0) (.c (.str "at"))) (.bin .Add (.ix (.v 0) (.c (.str "at"))) (.c (.int 1))))
  (.cons (.ite (.cmp .GtE (.v 2) (.bin .Pow (.c (.int 10)) (.c (.int 18)))) (.cons (.asg (.ix (.v 0) (.c (.str "digits"))) (.bin .Sub (.v 2) (.bin .Pow (.c (.int 10)) (.c (.int 18)))))
  .nil) (.cons (.asg (.ix (.v 0) (.c (.str "fold"))) (.bin .Mod (.bi .int (.cons (.bin .Add (.bin .Mult (.ix (.v 0) (.c (.str "fold"))) (.c (.int 30011))) (.v 2)) .nil)) (.c (.int 2147482921))))
  .nil))
  .nil))) .nil)
  (.cons (.ite (.cmp .Gt (.ix (.v 0) (.c (.str "digits"))) (.c (.int 0))) (.cons (.asg (.name 3) (.bin .Mod (.bi .int (.cons (.ix (.v 0) (.c (.str "digits"))) .nil)) (.v 1)))
  (.cons (.asg (.ix (.v 0) (.c (.str "digits"))) (.bin .FloorDiv (.ix (.v 0) (.c (.str "digits"))) (.v 1)))
  (.cons (.rtn (.v 3))
  .nil))) .nil)
  (.cons (.asg (.name 4) (.bin .Add (.bin .Add (.ix (.v 0) (.c (.str "fold"))) (.bin .Mult (.ix (.v 0) (.c (.str "count"))) (.c (.int 6311)))) (.c (.int 181))))
  (.cons (.rtn (.bin .Mod (.bin .FloorDiv (.bi .int (.cons (.bin .Mod (.bin .Pow (.v 4) (.c (.int 55))) (.c (.int 2305843009213693951))) .nil)) (.c (.int 1024))) (.v 1)))
  .nil))))) }
def F__law_pick : Fn := { np := 2, nl := 2, body :=
  (.cons (.rtn (.ix (.v 1) (.call "_law_draw" (.cons (.v 0) (.cons (.bi .len (.cons (.v 1) .nil)) .nil)))))
  .nil) }
def F__law_gcd : Fn := { np := 2, nl := 3, body :=
  (.cons (.par [0, 1] (.cons (.bi .abs (.cons (.v 0) .nil)) (.cons (.bi .abs (.cons (.v 1) .nil)) .nil)))
  (.cons (.for_ (.name 2) (.rng (.cons (.bin .Add (.c (.int 4)) (.bin .Mult (.c (.int 2)) (.met (.bi .int (.cons (.v 1) .nil)) .bits .nil))) .nil)) (.cons (.ite (.cmp .Eq (.v 1) (.c (.int 0))) (.cons .brk
  .nil) .nil)
  (.cons (.par [0, 1] (.cons (.v 1) (.cons (.bin .Mod (.bi .int (.cons (.v 0) .nil)) (.v 1)) .nil)))
  .nil)))
  (.cons (.rtn (.v 0))
  .nil))) }
def F__law_q : Fn := { np := 2, nl := 3, body :=
  (.cons (.asg (.name 2) (.call "_law_gcd" (.cons (.v 0) (.cons (.v 1) .nil))))
  (.cons (.asg (.name 2) (.ife (.cmp .Lt (.v 1) (.c (.int 0))) (.neg (.v 2)) (.v 2)))
  (.cons (.rtn (.tup (.cons (.bin .FloorDiv (.v 0) (.v 2)) (.cons (.bin .FloorDiv (.v 1) (.v 2)) .nil))))
  .nil))) }
def F__law_plus : Fn := { np := 2, nl := 2, body :=
  (.cons (.rtn (.call "_law_q" (.cons (.bin .Add (.bin .Mult (.ix (.v 0) (.c (.int 0))) (.ix (.v 1) (.c (.int 1)))) (.bin .Mult (.ix (.v 1) (.c (.int 0))) (.ix (.v 0) (.c (.int 1))))) (.cons (.bin .Mult (.ix (.v 0) (.c (.int 1))) (.ix (.v 1) (.c (.int 1)))) .nil))))
  .nil) }
def F__law_times : Fn := { np := 2, nl := 2, body :=
  (.cons (.rtn (.call "_law_q" (.cons (.bin .Mult (.ix (.v 0) (.c (.int 0))) (.ix (.v 1) (.c (.int 0)))) (.cons (.bin .Mult (.ix (.v 0) (.c (.int 1))) (.ix (.v 1) (.c (.int 1)))) .nil))))
  .nil) }
def F__law_less : Fn := { np := 2, nl := 2, body :=
  (.cons (.rtn (.cmp .Lt (.bin .Mult (.ix (.v 0) (.c (.int 0))) (.ix (.v 1) (.c (.int 1)))) (.bin .Mult (.ix (.v 1) (.c (.int 0))) (.ix (.v 0) (.c (.int 1))))))
  .nil) }
def F__law_minus : Fn := { np := 2, nl := 2, body :=
  (.cons (.rtn (.call "_law_q" (.cons (.bin .Sub (.bin .Mult (.ix (.v 0) (.c (.int 0))) (.ix (.v 1) (.c (.int 1)))) (.bin .Mult (.ix (.v 1) (.c (.int 0))) (.ix (.v 0) (.c (.int 1))))) (.cons (.bin .Mult (.ix (.v 0) (.c (.int 1))) (.ix (.v 1) (.c (.int 1)))) .nil))))
  .nil) }
def F__law_share : Fn := { np := 2, nl := 2, body :=
  (.cons (.rtn (.call "_law_q" (.cons (.bin .Mult (.ix (.v 0) (.c (.int 0))) (.ix (.v 1) (.c (.int 1)))) (.cons (.bin .Mult (.ix (.v 0) (.c (.int 1))) (.ix (.v 1) (.c (.int 0)))) .nil))))
  .nil) }
def F__law_drawn : Fn := { np := 2, nl := 3, body :=
  (.cons (.asg (.name 2) (.bin .Sub (.call "_law_draw" (.cons (.v 0) (.cons (.bin .Add (.bin .Mult (.c (.int 2)) (.v 1)) (.c (.int 1))) .nil))) (.v 1)))
  (.cons (.rtn (.call "_law_q" (.cons (.v 2) (.cons (.call "_law_pick" (.cons (.v 0) (.cons (.lst false (.cons (.c (.int 1)) (.cons (.c (.int 1)) (.cons (.c (.int 1)) (.cons (.c (.int 2)) (.cons (.c (.int 3)) .nil)))))) .nil))) .nil))))
  .nil)) }
def F__law_handed : Fn := { np := 2, nl := 3, body :=
  (.cons (.ite (.and (.cmp .Eq (.ix (.v 1) (.c (.int 1))) (.c (.int 1))) (.cmp .Eq (.call "_law_draw" (.cons (.v 0) (.cons (.c (.int 2)) .nil))) (.c (.int 0)))) (.cons (.rtn (.ix (.v 1) (.c (.int 0))))
  .nil) .nil)
  (.cons (.asg (.name 2) (.call "_law_pick" (.cons (.v 0) (.cons (.lst false (.cons (.c (.int 1)) (.cons (.c (.int 1)) (.cons (.c (.int 2)) (.cons (.c (.int 5)) .nil))))) .nil))))
  (.cons (.rtn (.call "_law_pick" (.cons (.v 0) (.cons (.lst false (.cons (.tup (.cons (.bin .Mult (.ix (.v 1) (.c (.int 0))) (.v 2)) (.cons (.bin .Mult (.ix (.v 1) (.c (.int 1))) (.v 2)) .nil))) (.cons (.lst false (.cons (.bin .Mult (.ix (.v 1) (.c (.int 0))) (.v 2)) (.cons (.bin .Mult (.ix (.v 1) (.c (.int 1))) (.v 2)) .nil))) .nil))) .nil))))
  .nil))) }
def F__law_fault : Fn := { np := 1, nl := 2, body :=
  (.cons (.try_ 1 (.cons (.exp (.cal 0 .nil))
  (.cons (.rtn (.c .non))
  .nil)) (.cons "BadText" (.tup (.cons (.c (.str "text")) (.cons (.xf "line") (.cons (.xf "column") .nil)))) (.cons "BadNumber" (.tup (.cons (.c (.str "number")) (.cons (.xf "what") (.cons (.xf "number") .nil)))) (.cons "BadRow" (.tup (.cons (.c (.str "row")) (.cons (.xf "row") .nil))) (.cons "TooMany" (.tup (.cons (.c (.str "many")) (.cons (.xf "what") (.cons (.xf "many") (.cons (.xf "limit") .nil))))) (.cons "Unlike" (.tup (.cons (.c (.str "unlike")) (.cons (.xf "what") .nil))) .nil))))))
  .nil) }
def F__law_are_due : Fn := { np := 1, nl := 3, body :=
  (.cons (.rtn (.bi .all (.cons (.comp false [("action", 1), ("due", 2)] (.tup (.cons (.name 1) (.cons (.name 2) .nil))) (.seq (.v 0)) .nil (.cmp .Eq (.bi .repr (.cons (.call "_law_fault" (.cons (.v 1) .nil)) .nil)) (.bi .repr (.cons (.v 2) .nil)))) .nil)))
  .nil) }
def F_law : Fn := { np := 1, nl := 12, body :=
  (.cons (.asg (.name 1) (.call "_law_pen" (.cons (.v 0) .nil)))
  (.cons (.for_ (.name 2) (.rng (.cons (.c (.int 6)) .nil)) (.cons (.par [3, 4] (.cons (.call "_law_drawn" (.cons (.v 1) (.cons (.call "_law_pick" (.cons (.v 1) (.cons (.lst false (.cons (.c (.int 4)) (.cons (.c (.int 99999)) .nil))) .nil))) .nil))) (.cons (.call "_law_drawn" (.cons (.v 1) (.cons (.c (.int 9)) .nil))) .nil)))
  (.cons (.ite (.cmp .Eq (.call "_law_draw" (.cons (.v 1) (.cons (.c (.int 3)) .nil))) (.c (.int 0))) (.cons (.asg (.name 3) (.call "_law_q" (.cons (.bin .Sub (.bin .Mult (.ix (.v 3) (.c (.int 0))) (.c (.int 5))) (.c (.int 3))) (.cons (.c (.int 999959)) .nil))))
  .nil) .nil)
  (.cons (.par [5, 6] (.cons (.call "_law_handed" (.cons (.v 1) (.cons (.v 3) .nil))) (.cons (.call "_law_handed" (.cons (.v 1) (.cons (.v 4) .nil))) .nil)))
  (.cons (.asg (.name 7) (.lst false (.cons (.v 3) (.cons (.call "_law_plus" (.cons (.v 3) (.cons (.v 4) .nil))) (.cons (.call "_law_minus" (.cons (.v 3) (.cons (.v 4) .nil))) (.cons (.call "_law_times" (.cons (.v 3) (.cons (.v 4) .nil))) (.cons (.call "_law_less" (.cons (.v 3) (.cons (.v 4) .nil))) .nil)))))))
  (.cons (.ite (.cmp .NotEq (.bi .repr (.cons (.lst false (.cons (.call "told" (.cons (.v 5) .nil)) (.cons (.call "plus" (.cons (.v 5) (.cons (.v 6) .nil))) (.cons (.call "minus" (.cons (.v 5) (.cons (.v 6) .nil))) (.cons (.call "times" (.cons (.v 5) (.cons (.v 6) .nil))) (.cons (.call "less" (.cons (.v 5) (.cons (.v 6) .nil))) .nil)))))) .nil)) (.bi .repr (.cons (.v 7) .nil))) (.cons (.rtn (.c (.bl false)))
  .nil) .nil)
  (.cons (.ite (.cmp .NotEq (.bi .repr (.cons (.call "is_ratio" (.cons (.v 5) .nil)) .nil)) (.bi .repr (.cons (.notv (.isi (.v 5) [.ty "list"])) .nil))) (.cons (.rtn (.c (.bl false)))
  .nil) .nil)
  (.cons (.ite (.and (.cmp .NotEq (.ix (.v 4) (.c (.int 0))) (.c (.int 0))) (.cmp .NotEq (.bi .repr (.cons (.call "share" (.cons (.v 5) (.cons (.v 6) .nil))) .nil)) (.bi .repr (.cons (.call "_law_share" (.cons (.v 3) (.cons (.v 4) .nil))) .nil)))) (.cons (.rtn (.c (.bl false)))
  .nil) .nil)
  .nil))))))))
  (.cons (.asg (.name 8) (.call "_law_pick" (.cons (.v 1) (.cons (.lst false (.cons (.c .non) (.cons (.c (.str "1")) (.cons (.tup (.cons (.c (.int 1)) .nil)) (.cons (.tup (.cons (.c (.int 1)) (.cons (.c (.int 0)) .nil))) (.cons (.tup (.cons (.c (.int 1)) (.cons (.neg (.c (.int 2))) .nil))) (.cons (.tup (.cons (.c (.bl true)) (.cons (.c (.int 2)) .nil))) (.cons (.tup (.cons (.c (.int 1)) (.cons (.c (.bl true)) .nil))) (.cons (.c (.bl true)) (.cons (.tup (.cons (.c (.int 1)) (.cons (.c (.int 2)) (.cons (.c (.int 3)) .nil)))) (.cons (.lst false .nil) (.cons (.dct false [] .nil) .nil)))))))))))) .nil))))
  (.cons (.asg (.tup (.cons (.name 9) (.cons (.name 10) .nil))) (.tup (.cons (.call "_law_pick" (.cons (.v 1) (.cons (.lst false (.cons (.c (.str "x")) (.cons (.tup (.cons (.c (.int 0)) (.cons (.c (.int 0)) .nil))) (.cons (.c .non) .nil)))) .nil))) (.cons (.call "_law_pick" (.cons (.v 1) (.cons (.lst false (.cons (.c (.int 0)) (.cons (.tup (.cons (.c (.int 0)) (.cons (.c (.int 6)) .nil))) .nil))) .nil))) .nil))))
  (.cons (.lamN 11 7 (.tup (.cons (.c (.str "row")) (.cons (.v 8) .nil))))
  (.cons (.lamA 11 6 (.tup (.cons (.c (.str "row")) (.cons (.v 8) .nil))))
  (.cons (.lamA 11 5 (.tup (.cons (.c (.str "row")) (.cons (.v 8) .nil))))
  (.cons (.lamA 11 4 (.tup (.cons (.c (.str "row")) (.cons (.v 9) .nil))))
  (.cons (.lamA 11 3 (.tup (.cons (.c (.str "row")) (.cons (.v 8) .nil))))
  (.cons (.lamA 11 2 (.tup (.cons (.c (.str "row")) (.cons (.v 8) .nil))))
  (.cons (.lamA 11 1 (.tup (.cons (.c (.str "row")) (.cons (.v 8) .nil))))
  (.cons (.lamA 11 0 (.tup (.cons (.c (.str "number")) (.cons (.c (.str "share")) (.cons (.c (.int 0)) .nil)))))
  (.cons (.rtn (.andv (.cmp .Is (.call "is_ratio" (.cons (.v 8) .nil)) (.c (.bl false))) (.callC "_law_are_due" (.cons (.v 11) .nil) [8, 9, 10])))
  .nil))))))))))))) }
def names0 : List Str := ["is_whole", "is_pair", "is_ratio", "lowest", "told", "summed", "lessened", "scaled", "parted", "below", "plus", "minus", "times", "share", "less", "_law_pen", "_law_draw", "_law_pick", "_law_gcd", "_law_q", "_law_plus", "_law_times", "_law_less", "_law_minus", "_law_share", "_law_drawn", "_law_handed", "_law_fault", "_law_are_due"]
def gl : Gl where
  con := fun x => if names0.any (fun n => decide (n = x)) then some (.fn x) else none
  isa := fun _ _ => none
  cls := fun _ => none
  exs := fun c => ([("BadNumber", ["what", "number"]), ("BadText", ["line", "column"]), ("BadRow", ["row"]), ("Unlike", ["what"]), ("TooMany", ["what", "many", "limit"])] : List (Str × List Str)).lookup c
  fn := fun f => ([("is_whole", F_is_whole), ("is_pair", F_is_pair), ("is_ratio", F_is_ratio), ("lowest", F_lowest), ("told", F_told), ("summed", F_summed), ("lessened", F_lessened), ("scaled", F_scaled), ("parted", F_parted), ("below", F_below), ("plus", F_plus), ("minus", F_minus), ("times", F_times), ("share", F_share), ("less", F_less), ("_law_pen", F__law_pen), ("_law_draw", F__law_draw), ("_law_pick", F__law_pick), ("_law_gcd", F__law_gcd), ("_law_q", F__law_q), ("_law_plus", F__law_plus), ("_law_times", F__law_times), ("_law_less", F__law_less), ("_law_minus", F__law_minus), ("_law_share", F__law_share), ("_law_drawn", F__law_drawn), ("_law_handed", F__law_handed), ("_law_fault", F__law_fault), ("_law_are_due", F__law_are_due)] : List (Str × Fn)).lookup f
  lam := fun l => ([{ nl := 12, fv := [10], body := (.call "share" (.cons (.c (.int 3)) (.cons (.v 10) .nil))) },
    { nl := 12, fv := [8], body := (.call "share" (.cons (.c (.int 1)) (.cons (.v 8) .nil))) },
    { nl := 12, fv := [8], body := (.call "share" (.cons (.v 8) (.cons (.c (.int 0)) .nil))) },
    { nl := 12, fv := [8], body := (.call "less" (.cons (.tup (.cons (.c (.int 1)) (.cons (.c (.int 2)) .nil))) (.cons (.v 8) .nil))) },
    { nl := 12, fv := [9, 8], body := (.call "times" (.cons (.v 9) (.cons (.v 8) .nil))) },
    { nl := 12, fv := [8], body := (.call "minus" (.cons (.c (.int 1)) (.cons (.v 8) .nil))) },
    { nl := 12, fv := [8, 9], body := (.call "plus" (.cons (.v 8) (.cons (.v 9) .nil))) },
    { nl := 12, fv := [8], body := (.call "told" (.cons (.v 8) .nil)) }] : List Lam)[l]?
  wf := 1000
theorem f_is_whole : gl.fn "is_whole" = some F_is_whole := by with_unfolding_all rfl
theorem f_is_pair : gl.fn "is_pair" = some F_is_pair := by with_unfolding_all rfl
theorem f_is_ratio : gl.fn "is_ratio" = some F_is_ratio := by with_unfolding_all rfl
theorem f_lowest : gl.fn "lowest" = some F_lowest := by with_unfolding_all rfl
theorem f_told : gl.fn "told" = some F_told := by with_unfolding_all rfl
theorem f_summed : gl.fn "summed" = some F_summed := by with_unfolding_all rfl
theorem f_lessened : gl.fn "lessened" = some F_lessened := by with_unfolding_all rfl
theorem f_scaled : gl.fn "scaled" = some F_scaled := by with_unfolding_all rfl
theorem f_parted : gl.fn "parted" = some F_parted := by with_unfolding_all rfl
theorem f_below : gl.fn "below" = some F_below := by with_unfolding_all rfl
theorem f_plus : gl.fn "plus" = some F_plus := by with_unfolding_all rfl
theorem f_minus : gl.fn "minus" = some F_minus := by with_unfolding_all rfl
theorem f_times : gl.fn "times" = some F_times := by with_unfolding_all rfl
theorem f_share : gl.fn "share" = some F_share := by with_unfolding_all rfl
theorem f_less : gl.fn "less" = some F_less := by with_unfolding_all rfl
theorem f__law_pen : gl.fn "_law_pen" = some F__law_pen := by with_unfolding_all rfl
theorem f__law_draw : gl.fn "_law_draw" = some F__law_draw := by with_unfolding_all rfl
theorem f__law_pick : gl.fn "_law_pick" = some F__law_pick := by with_unfolding_all rfl
theorem f__law_gcd : gl.fn "_law_gcd" = some F__law_gcd := by with_unfolding_all rfl
theorem f__law_q : gl.fn "_law_q" = some F__law_q := by with_unfolding_all rfl
theorem f__law_plus : gl.fn "_law_plus" = some F__law_plus := by with_unfolding_all rfl
theorem f__law_times : gl.fn "_law_times" = some F__law_times := by with_unfolding_all rfl
theorem f__law_less : gl.fn "_law_less" = some F__law_less := by with_unfolding_all rfl
theorem f__law_minus : gl.fn "_law_minus" = some F__law_minus := by with_unfolding_all rfl
theorem f__law_share : gl.fn "_law_share" = some F__law_share := by with_unfolding_all rfl
theorem f__law_drawn : gl.fn "_law_drawn" = some F__law_drawn := by with_unfolding_all rfl
theorem f__law_handed : gl.fn "_law_handed" = some F__law_handed := by with_unfolding_all rfl
theorem f__law_fault : gl.fn "_law_fault" = some F__law_fault := by with_unfolding_all rfl
theorem f__law_are_due : gl.fn "_law_are_due" = some F__law_are_due := by with_unfolding_all rfl
end L_k02
end
section
set_option linter.all false
set_option maxRecDepth 100000
set_option maxHeartbeats 400003
namespace L_k02
open PySem Ev
/-! ### whole numbers' facts -/
def gz (a b : Int) : Int := if 0 < b then (Int.gcd a b : Int) else -(Int.gcd a b : Int)
def lowD (a b : Int) : D := .tup [.int (a.fdiv (gz a b)), .int (b.fdiv (gz a b))]
theorem gz_ne {a b : Int} (h : b ≠ 0) : gz a b ≠ 0 := by
  have : Int.gcd a b ≠ 0 := fun z => h (Int.gcd_eq_zero_iff.mp z).2
  unfold gz
  split <;> omega
theorem gz_abs {a b : Int} (h : b ≠ 0) : (gz a b).natAbs ≤ b.natAbs := by
  have hd : Int.gcd a b ∣ b.natAbs := by
    have := Int.gcd_dvd_right a b
    exact Int.ofNat_dvd_left.mp this
  have := Nat.le_of_dvd (by omega) hd
  unfold gz
  split <;> omega
theorem szI_le {a b : Int} (h : a.natAbs ≤ b.natAbs) (hb : szI b = true) : szI a = true := by
  unfold szI at *
  have hb := of_decide_eq_true hb
  refine decide_eq_true (Nat.lt_of_le_of_lt ?_ hb)
  by_cases ha : a.natAbs = 0
  · rw [ha]; simp
  · exact (Nat.le_log2 (by omega)).mpr (Nat.le_trans (Nat.log2_self_le ha) h)
theorem szI_lt {a : Int} {k : Nat} (h : a.natAbs < 2 ^ k) (hk : k ≤ 9000) : szI a = true := by
  unfold szI
  refine decide_eq_true ?_
  by_cases ha : a.natAbs = 0
  · rw [ha]; simp; 
  · exact Nat.lt_of_lt_of_le ((Nat.log2_lt ha).mpr h) hk
/-! ### small functions -/
theorem whole_int (k : Nat) (i : Int) (s : Sto) : (orcAt gl (k+1)).fn "is_whole" [.int i] s = .ok (.bl true) s :=
  call_rt f_is_whole rfl rfl rfl rfl rfl
theorem whole_tup (k : Nat) (ds : List D) (s : Sto) : (orcAt gl (k+1)).fn "is_whole" [.tup ds] s = .ok (.bl false) s :=
  call_rt f_is_whole rfl rfl rfl rfl rfl
theorem whole_lst (k : Nat) (ds : List D) (s : Sto) : (orcAt gl (k+1)).fn "is_whole" [.lst ds] s = .ok (.bl false) s :=
  call_rt f_is_whole rfl rfl rfl rfl rfl
theorem pair_tup (k : Nat) (a b : Int) (s : Sto) : (orcAt gl (k+2)).fn "is_pair" [.tup [.int a, .int b]] s = .ok (.bl (decide (0 < b))) s :=
  call_rt f_is_pair rfl rfl rfl rfl (r_by rfl (r_rtn (r_and (r_call rfl (whole_int _ _ _)) (r_and (r_call rfl (whole_int _ _ _)) rfl))))
theorem pair_lst (k : Nat) (a b : Int) (s : Sto) : (orcAt gl (k+2)).fn "is_pair" [.lst [.int a, .int b]] s = .ok (.bl (decide (0 < b))) s :=
  call_rt f_is_pair rfl rfl rfl rfl (r_by rfl (r_rtn (r_and (r_call rfl (whole_int _ _ _)) (r_and (r_call rfl (whole_int _ _ _)) rfl))))
theorem fdiv_int {a b : Int} (h : b ≠ 0) (hz : szI b = true) (s : Sto) : binD .FloorDiv (.int a) (.int b) s = .ok (.int (a.fdiv b)) s := by
  have e : binO .FloorDiv (.int a) (.int b) = some (.int (a.fdiv b)) := by
    show (if decide (b ≠ 0) && szI b then some (D.int (a.fdiv b)) else none) = _
    rw [hz, decide_eq_true h]
    rfl
  show opD (binO .FloorDiv (.int a) (.int b)) s = _
  rw [e]
  rfl
theorem mul_int {a b : Int} (h : szI a = true) (hz : szI b = true) (s : Sto) : binD .Mult (.int a) (.int b) s = .ok (.int (a * b)) s := by
  have e : binO .Mult (.int a) (.int b) = some (.int (a * b)) := by
    show (if mulOk a b then some (D.int (a * b)) else none) = _
    unfold mulOk
    rw [h, hz]
    rfl
  show opD (binO .Mult (.int a) (.int b)) s = _
  rw [e]
  rfl
theorem lowest_ok (k : Nat) (a b : Int) (s : Sto) (h : b ≠ 0) (hz : szI b = true) : (orcAt gl (k+1)).fn "lowest" [.int a, .int b] s = .ok (lowD a b) s := by
  refine call_rt f_lowest rfl rfl rfl rfl (r_set (d := .int (gz a b)) (r_ife (q := decide (0 < b)) rfl ?_) (r_rtn (r_tup (r_esc (r_bin rfl rfl (fdiv_int (gz_ne h) (szI_le (gz_abs h) hz) _)) (r_es1 (r_bin rfl rfl (fdiv_int (gz_ne h) (szI_le (gz_abs h) hz) _)))) rfl)))
  by_cases hb : 0 < b
  · rw [decide_eq_true hb]
    show evE _ (.bi .gcd _) _ s = _
    unfold gz
    rw [if_pos hb]
    rfl
  · rw [decide_eq_false hb]
    show evE _ (.neg _) _ s = _
    unfold gz
    rw [if_neg hb]
    exact r_neg rfl
end L_k02
end
section
set_option linter.all false
set_option maxRecDepth 100000
set_option maxHeartbeats 1000003
namespace L_k02
open PySem Ev
theorem told_int (k : Nat) (n : Int) (s : Sto) : (orcAt gl (k+2)).fn "told" [.int n] s = .ok (.tup [.int n, .int 1]) s :=
  call_rt f_told rfl rfl rfl rfl (r_in (tt_val (r_call rfl (whole_int _ _ _)) rfl) (r_rtn rfl))
theorem told_tup (k : Nat) (a b : Int) (s : Sto) (h : 0 < b) (hz : szI b = true) : (orcAt gl (k+3)).fn "told" [.tup [.int a, .int b]] s = .ok (lowD a b) s :=
  call_rt f_told rfl rfl rfl rfl (r_by (tt_val (r_call rfl (whole_tup _ _ _)) rfl) (r_by (tt_not (q := true) (tt_val (r_call rfl (pair_tup _ _ _ _)) (by rw [decide_eq_true h]; rfl))) (r_rtn (r_call rfl (lowest_ok _ _ _ _ (by omega) hz)))))
theorem told_lst (k : Nat) (a b : Int) (s : Sto) (h : 0 < b) (hz : szI b = true) : (orcAt gl (k+3)).fn "told" [.lst [.int a, .int b]] s = .ok (lowD a b) s :=
  call_rt f_told rfl rfl rfl rfl (r_by (tt_val (r_call rfl (whole_lst _ _ _)) rfl) (r_by (tt_not (q := true) (tt_val (r_call rfl (pair_lst _ _ _ _)) (by rw [decide_eq_true h]; rfl))) (r_rtn (r_call rfl (lowest_ok _ _ _ _ (by omega) hz)))))
section
variable {x y : D} {n1 d1 n2 d2 : Int} {k : Nat} {s : Sto}
theorem summed_ok (hn1 : szI n1 = true) (hd1 : szI d1 = true) (hn2 : szI n2 = true) (hd2 : szI d2 = true) (hb : d1 * d2 ≠ 0) (hz : szI (d1 * d2) = true) : (orcAt gl (k+2)).fn "summed" [.tup [.int n1, .int d1], .tup [.int n2, .int d2]] s = .ok (lowD (n1 * d2 + n2 * d1) (d1 * d2)) s :=
  call_rt f_summed rfl rfl rfl rfl (r_rtn (r_call (r_esc (r_bin (r_bin rfl rfl (mul_int hn1 hd2 _)) (r_bin rfl rfl (mul_int hn2 hd1 _)) rfl) (r_es1 (r_bin rfl rfl (mul_int hd1 hd2 _)))) (lowest_ok _ _ _ _ hb hz)))
theorem lessened_ok (hn1 : szI n1 = true) (hd1 : szI d1 = true) (hn2 : szI n2 = true) (hd2 : szI d2 = true) (hb : d1 * d2 ≠ 0) (hz : szI (d1 * d2) = true) : (orcAt gl (k+2)).fn "lessened" [.tup [.int n1, .int d1], .tup [.int n2, .int d2]] s = .ok (lowD (n1 * d2 - n2 * d1) (d1 * d2)) s :=
  call_rt f_lessened rfl rfl rfl rfl (r_rtn (r_call (r_esc (r_bin (r_bin rfl rfl (mul_int hn1 hd2 _)) (r_bin rfl rfl (mul_int hn2 hd1 _)) rfl) (r_es1 (r_bin rfl rfl (mul_int hd1 hd2 _)))) (lowest_ok _ _ _ _ hb hz)))
theorem scaled_ok (hn1 : szI n1 = true) (hd1 : szI d1 = true) (hn2 : szI n2 = true) (hd2 : szI d2 = true) (hb : d1 * d2 ≠ 0) (hz : szI (d1 * d2) = true) : (orcAt gl (k+2)).fn "scaled" [.tup [.int n1, .int d1], .tup [.int n2, .int d2]] s = .ok (lowD (n1 * n2) (d1 * d2)) s :=
  call_rt f_scaled rfl rfl rfl rfl (r_rtn (r_call (r_esc (r_bin rfl rfl (mul_int hn1 hn2 _)) (r_es1 (r_bin rfl rfl (mul_int hd1 hd2 _)))) (lowest_ok _ _ _ _ hb hz)))
theorem parted_ok (hn1 : szI n1 = true) (hd1 : szI d1 = true) (hn2 : szI n2 = true) (hd2 : szI d2 = true) (hb : d1 * n2 ≠ 0) (hz : szI (d1 * n2) = true) : (orcAt gl (k+2)).fn "parted" [.tup [.int n1, .int d1], .tup [.int n2, .int d2]] s = .ok (lowD (n1 * d2) (d1 * n2)) s :=
  call_rt f_parted rfl rfl rfl rfl (r_rtn (r_call (r_esc (r_bin rfl rfl (mul_int hn1 hd2 _)) (r_es1 (r_bin rfl rfl (mul_int hd1 hn2 _)))) (lowest_ok _ _ _ _ hb hz)))
theorem below_ok (hn1 : szI n1 = true) (hd1 : szI d1 = true) (hn2 : szI n2 = true) (hd2 : szI d2 = true) : (orcAt gl (k+1)).fn "below" [.tup [.int n1, .int d1], .tup [.int n2, .int d2]] s = .ok (.bl (decide (n1 * d2 < n2 * d1))) s :=
  call_rt f_below rfl rfl rfl rfl (r_rtn (r_cmp (r_bin rfl rfl (mul_int hn1 hd2 _)) (r_bin rfl rfl (mul_int hn2 hd1 _)) rfl))
section
variable (hx : (orcAt gl (k+3)).fn "told" [x] s = .ok (.tup [.int n1, .int d1]) s) (hy : (orcAt gl (k+3)).fn "told" [y] s = .ok (.tup [.int n2, .int d2]) s)
include hx hy
theorem plus_ok (hn1 : szI n1 = true) (hd1 : szI d1 = true) (hn2 : szI n2 = true) (hd2 : szI d2 = true) (hb : d1 * d2 ≠ 0) (hz : szI (d1 * d2) = true) : (orcAt gl (k+4)).fn "plus" [x, y] s = .ok (lowD (n1 * d2 + n2 * d1) (d1 * d2)) s :=
  call_rt f_plus rfl rfl rfl rfl (r_par (r_esc (r_call rfl hx) (r_es1 (r_call rfl hy))) rfl (r_rtn (r_call rfl (summed_ok hn1 hd1 hn2 hd2 hb hz))))
theorem minus_ok (hn1 : szI n1 = true) (hd1 : szI d1 = true) (hn2 : szI n2 = true) (hd2 : szI d2 = true) (hb : d1 * d2 ≠ 0) (hz : szI (d1 * d2) = true) : (orcAt gl (k+4)).fn "minus" [x, y] s = .ok (lowD (n1 * d2 - n2 * d1) (d1 * d2)) s :=
  call_rt f_minus rfl rfl rfl rfl (r_par (r_esc (r_call rfl hx) (r_es1 (r_call rfl hy))) rfl (r_rtn (r_call rfl (lessened_ok hn1 hd1 hn2 hd2 hb hz))))
theorem times_ok (hn1 : szI n1 = true) (hd1 : szI d1 = true) (hn2 : szI n2 = true) (hd2 : szI d2 = true) (hb : d1 * d2 ≠ 0) (hz : szI (d1 * d2) = true) : (orcAt gl (k+4)).fn "times" [x, y] s = .ok (lowD (n1 * n2) (d1 * d2)) s :=
  call_rt f_times rfl rfl rfl rfl (r_par (r_esc (r_call rfl hx) (r_es1 (r_call rfl hy))) rfl (r_rtn (r_call rfl (scaled_ok hn1 hd1 hn2 hd2 hb hz))))
theorem less_ok (hn1 : szI n1 = true) (hd1 : szI d1 = true) (hn2 : szI n2 = true) (hd2 : szI d2 = true) : (orcAt gl (k+4)).fn "less" [x, y] s = .ok (.bl (decide (n1 * d2 < n2 * d1))) s :=
  call_rt f_less rfl rfl rfl rfl (r_par (r_esc (r_call rfl hx) (r_es1 (r_call rfl hy))) rfl (r_rtn (r_call rfl (below_ok hn1 hd1 hn2 hd2))))
end
end
/-! ### Euclid -/
theorem log_half {y r : Nat} (h : 0 < r) (hr : r ≤ y / 2) : r.log2 + 1 ≤ y.log2 := by
  have h1 : 2 ^ r.log2 ≤ r := Nat.log2_self_le (by omega)
  have h2 : 2 ^ (r.log2 + 1) ≤ y := by rw [Nat.pow_succ]; omega
  exact (Nat.le_log2 (by omega)).mpr h2
def szN (y : Nat) : Nat := if y = 0 then 0 else y.log2 + 1
theorem szN_step {x y : Nat} (hy : 0 < y) (hr : 0 < x % y) : szN (y % (x % y)) + 1 ≤ szN y := by
  have h1 : x % y < y := Nat.mod_lt _ hy
  have h2 : y % (x % y) < x % y := Nat.mod_lt _ hr
  unfold szN
  rw [if_neg (by omega : ¬ y = 0)]
  by_cases h : y % (x % y) = 0
  · rw [if_pos h]; omega
  · rw [if_neg h]
    have h3 : y % (x % y) ≤ y / 2 := by
      have := Nat.div_add_mod y (x % y)
      have h4 : 1 ≤ y / (x % y) := Nat.div_pos (Nat.le_of_lt h1) hr
      have h5 : (x % y) * 1 ≤ (x % y) * (y / (x % y)) := Nat.mul_le_mul_left _ h4
      omega
    have := log_half (Nat.pos_of_ne_zero h) h3
    omega
def gcdB : Ss := .cons (.ite (.cmp .Eq (.v 1) (.c (.int 0))) (.cons .brk .nil) .nil) (.cons (.par [0, 1] (.cons (.v 1) (.cons (.bin .Mod (.bi .int (.cons (.v 0) .nil)) (.v 1)) .nil))) .nil)
theorem gcd_turn0 (k : Nat) (l : Int) (x : Int) (o : Option D) (s : Sto) : forT (cxK gl k) (.name 2) gcdB (.int l) [some (.int x), some (.int 0), o] s = .ok (.bk [some (.int x), some (.int 0), some (.int l)]) s := rfl
theorem gcd_turn (k : Nat) (l : Int) (x y : Nat) (o : Option D) (s : Sto) (hy : 0 < y) : forT (cxK gl k) (.name 2) gcdB (.int l) [some (.int x), some (.int y), o] s = .ok (.nx [some (.int y), some (.int ((x % y : Nat) : Int)), some (.int l)]) s := by
  show evSs (cxK gl k) gcdB [some (.int x), some (.int y), some (.int l)] s = _
  have hc : cmpD .Eq (.int (y : Int)) (.int 0) s = .ok false s := by
    show opB (eqS (.int (y : Int)) (.int 0)) s = _
    have : eqS (.int (y : Int)) (.int 0) = some false := by
      show (if true then some (PyData.eqv (.int (y : Int)) (.int 0)) else none) = some false
      simp [PyData.eqv]
      omega
    rw [this]
    rfl
  have hm : binD .Mod (.int (x : Int)) (.int (y : Int)) s = .ok (.int ((x % y : Nat) : Int)) s := by
    have : binO .Mod (.int (x : Int)) (.int (y : Int)) = some (.int ((x % y : Nat) : Int)) := by
      show (if decide (0 < (y : Int)) then some (D.int ((x : Int) % (y : Int))) else none) = _
      rw [decide_eq_true (by omega)]
      simp
    show opD (binO .Mod (.int (x : Int)) (.int (y : Int))) s = _
    rw [this]
    rfl
  exact r_by (tt_cmp rfl rfl hc) (r_par (r_esc rfl (r_es1 (r_bin rfl rfl hm))) rfl rfl)
theorem gcd_loop (k : Nat) (s : Sto) : ∀ (ls : List Int) (x y : Nat) (o : Option D), 2 * szN y ≤ ls.length → ∃ y' o', loopF (forT (cxK gl k) (.name 2) gcdB) (ls.map .int) [some (.int x), some (.int y), o] s = .ok (.nx [some (.int (Nat.gcd x y : Nat)), y', o']) s
  | [], x, y, o, h => by
    have : y = 0 := by
      unfold szN at h
      split at h
      · assumption
      · simp at h
    subst this
    exact ⟨_, _, by rw [Nat.gcd_zero_right]; rfl⟩
  | l :: ls, x, 0, o, h => ⟨_, _, by rw [Nat.gcd_zero_right]; exact loopF_bk (gcd_turn0 k l x o s)⟩
  | [l], x, y + 1, o, h => by
    unfold szN at h
    rw [if_neg (by omega)] at h
    simp at h
    omega
  | l :: l2 :: ls, x, y + 1, o, h => by
    by_cases hr : x % (y + 1) = 0
    · have : Nat.gcd x (y + 1) = y + 1 := Nat.gcd_eq_right (Nat.dvd_of_mod_eq_zero hr)
      rw [this]
      refine ⟨some (.int 0), some (.int l2), loopF_nx (gcd_turn k l x (y + 1) o s (by omega)) ?_⟩
      rw [hr]
      exact loopF_bk (gcd_turn0 k l2 (y + 1 : Nat) _ s)
    · obtain ⟨y', o', hl⟩ := gcd_loop k s ls (x % (y + 1)) ((y + 1) % (x % (y + 1))) (some (.int l2)) (by
        have := szN_step (x := x) (y := y + 1) (by omega) (by omega)
        simp at h
        omega)
      refine ⟨y', o', loopF_nx (gcd_turn k l x (y + 1) o s (by omega)) (loopF_nx (gcd_turn k l2 (y + 1) (x % (y + 1)) _ s (by omega)) ?_)⟩
      have e : Nat.gcd (x % (y + 1)) ((y + 1) % (x % (y + 1))) = Nat.gcd x (y + 1) := by
        rw [Nat.gcd_comm, ← Nat.gcd_rec, ← Nat.gcd_rec, Nat.gcd_comm]
      rw [← e]
      exact hl
end L_k02
end
section
set_option linter.all false
set_option maxRecDepth 100000
set_option maxHeartbeats 1000003
namespace L_k02
open PySem Ev
theorem abs_ok (a : Int) (s : Sto) : biD .abs [.int a] s = .ok (.int (a.natAbs : Nat)) s := by
  show opD (some (D.int (if a < 0 then -a else a))) s = _
  have : (if a < 0 then -a else a) = (a.natAbs : Int) := by split <;> omega
  rw [this]
  rfl
theorem bits_ok (y : Nat) (s : Sto) (X : Cx') (e : En) (h : e[1]? = some (some (.int (y : Int)))) : evE X (.met (.bi .int (.cons (.v 1) .nil)) .bits .nil) e s = .ok (.int (szN y : Nat)) s := by
  have h1 : evE X (.bi .int (.cons (.v 1) .nil)) e s = .ok (.int (y : Int)) s := r_bi (r_es1 (by
    show (match e[1]? with | some (some d) => Ev.ret d | _ => Ev.no) s = _
    rw [h]
    rfl)) rfl
  show bnd (evE X (.bi .int (.cons (.v 1) .nil)) e) _ s = _
  rw [bnd_ok h1]
  show Ev.ret (D.int ((if (y : Int) = 0 then 0 else (y : Int).natAbs.log2 + 1 : Nat) : Int)) s = _
  have : (if (y : Int) = 0 then 0 else (y : Int).natAbs.log2 + 1) = szN y := by
    unfold szN
    by_cases hy : y = 0
    · rw [if_pos hy, if_pos (by omega)]
    · rw [if_neg hy, if_neg (by omega)]
      rfl
  rw [this]
  rfl
theorem gcd_ok (k : Nat) (a b : Int) (s : Sto) (hz : szI b = true) : (orcAt gl (k+1)).fn "_law_gcd" [.int a, .int b] s = .ok (.int (Int.gcd a b : Nat)) s := by
  have hsz : szN b.natAbs ≤ 9000 := by
    unfold szI at hz
    have := of_decide_eq_true hz
    unfold szN
    split <;> omega
  obtain ⟨y', o', hl⟩ := gcd_loop k s ((List.range (4 + 2 * szN b.natAbs)).map fun (i : Nat) => (i : Int)) a.natAbs b.natAbs none (by simp)
  refine call_rt f__law_gcd rfl rfl rfl rfl (r_par (e' := [some (.int (a.natAbs : Nat)), some (.int (b.natAbs : Nat)), none]) (r_esc (r_bi rfl (abs_ok _ _)) (r_es1 (r_bi rfl (abs_ok _ _)))) rfl (r_for ?_ hl (r_rtn rfl)))
  have h1 : evE (cxK gl k) (.bin .Add (.c (.int 4)) (.bin .Mult (.c (.int 2)) (.met (.bi .int (.cons (.v 1) .nil)) .bits .nil))) [some (.int (a.natAbs : Nat)), some (.int (b.natAbs : Nat)), none] s = .ok (.int (4 + 2 * (szN b.natAbs : Nat))) s :=
    r_bin rfl (r_bin rfl (bits_ok _ _ _ _ rfl) (mul_int rfl (szI_lt (k := 20) (by omega) (by omega)) _)) rfl
  show bnd (evEs (cxK gl k) (.cons _ .nil) _) _ s = _
  rw [bnd_ok (r_es1 h1)]
  have h2 : rngD [.int (4 + 2 * (szN b.natAbs : Nat))] = some (((List.range (4 + 2 * szN b.natAbs)).map fun (i : Nat) => (i : Int)).map .int) := by
    show (if smI (4 + 2 * (szN b.natAbs : Nat)) then _ else none) = _
    have : smI (4 + 2 * (szN b.natAbs : Nat)) = true := by
      unfold smI
      rw [decide_eq_true (by omega), decide_eq_true (by omega)]
      rfl
    rw [this, if_pos rfl, List.map_map]
    have e : (4 + 2 * ((szN b.natAbs : Nat) : Int)).toNat = 4 + 2 * szN b.natAbs := by omega
    rw [e]
    rfl
  rw [h2]
  rfl
theorem q_ok (k : Nat) (a b : Int) (s : Sto) (h : b ≠ 0) (hz : szI b = true) : (orcAt gl (k+2)).fn "_law_q" [.int a, .int b] s = .ok (lowD a b) s := by
  refine call_rt f__law_q rfl rfl rfl rfl (r_set (r_call rfl (gcd_ok _ _ _ _ hz)) (r_set (d := .int (gz a b)) (r_ife (q := decide (b < 0)) rfl ?_) (r_rtn (r_tup (r_esc (r_bin rfl rfl (fdiv_int (gz_ne h) (szI_le (gz_abs h) hz) _)) (r_es1 (r_bin rfl rfl (fdiv_int (gz_ne h) (szI_le (gz_abs h) hz) _)))) rfl))))
  unfold gz
  by_cases hb : 0 < b
  · rw [decide_eq_false (by omega), if_pos hb]
    rfl
  · rw [decide_eq_true (by omega), if_neg hb]
    exact r_neg rfl
section
variable {n1 d1 n2 d2 : Int} {k : Nat} {s : Sto}
theorem lplus_ok (hn1 : szI n1 = true) (hd1 : szI d1 = true) (hn2 : szI n2 = true) (hd2 : szI d2 = true) (hb : d1 * d2 ≠ 0) (hz : szI (d1 * d2) = true) : (orcAt gl (k+3)).fn "_law_plus" [.tup [.int n1, .int d1], .tup [.int n2, .int d2]] s = .ok (lowD (n1 * d2 + n2 * d1) (d1 * d2)) s :=
  call_rt f__law_plus rfl rfl rfl rfl (r_rtn (r_call (r_esc (r_bin (r_bin rfl rfl (mul_int hn1 hd2 _)) (r_bin rfl rfl (mul_int hn2 hd1 _)) rfl) (r_es1 (r_bin rfl rfl (mul_int hd1 hd2 _)))) (q_ok _ _ _ _ hb hz)))
theorem lminus_ok (hn1 : szI n1 = true) (hd1 : szI d1 = true) (hn2 : szI n2 = true) (hd2 : szI d2 = true) (hb : d1 * d2 ≠ 0) (hz : szI (d1 * d2) = true) : (orcAt gl (k+3)).fn "_law_minus" [.tup [.int n1, .int d1], .tup [.int n2, .int d2]] s = .ok (lowD (n1 * d2 - n2 * d1) (d1 * d2)) s :=
  call_rt f__law_minus rfl rfl rfl rfl (r_rtn (r_call (r_esc (r_bin (r_bin rfl rfl (mul_int hn1 hd2 _)) (r_bin rfl rfl (mul_int hn2 hd1 _)) rfl) (r_es1 (r_bin rfl rfl (mul_int hd1 hd2 _)))) (q_ok _ _ _ _ hb hz)))
theorem ltimes_ok (hn1 : szI n1 = true) (hd1 : szI d1 = true) (hn2 : szI n2 = true) (hd2 : szI d2 = true) (hb : d1 * d2 ≠ 0) (hz : szI (d1 * d2) = true) : (orcAt gl (k+3)).fn "_law_times" [.tup [.int n1, .int d1], .tup [.int n2, .int d2]] s = .ok (lowD (n1 * n2) (d1 * d2)) s :=
  call_rt f__law_times rfl rfl rfl rfl (r_rtn (r_call (r_esc (r_bin rfl rfl (mul_int hn1 hn2 _)) (r_es1 (r_bin rfl rfl (mul_int hd1 hd2 _)))) (q_ok _ _ _ _ hb hz)))
theorem lshare_ok (hn1 : szI n1 = true) (hd1 : szI d1 = true) (hn2 : szI n2 = true) (hd2 : szI d2 = true) (hb : d1 * n2 ≠ 0) (hz : szI (d1 * n2) = true) : (orcAt gl (k+3)).fn "_law_share" [.tup [.int n1, .int d1], .tup [.int n2, .int d2]] s = .ok (lowD (n1 * d2) (d1 * n2)) s :=
  call_rt f__law_share rfl rfl rfl rfl (r_rtn (r_call (r_esc (r_bin rfl rfl (mul_int hn1 hd2 _)) (r_es1 (r_bin rfl rfl (mul_int hd1 hn2 _)))) (q_ok _ _ _ _ hb hz)))
theorem lless_ok (hn1 : szI n1 = true) (hd1 : szI d1 = true) (hn2 : szI n2 = true) (hd2 : szI d2 = true) : (orcAt gl (k+1)).fn "_law_less" [.tup [.int n1, .int d1], .tup [.int n2, .int d2]] s = .ok (.bl (decide (n1 * d2 < n2 * d1))) s :=
  call_rt f__law_less rfl rfl rfl rfl (r_rtn (r_cmp (r_bin rfl rfl (mul_int hn1 hd2 _)) (r_bin rfl rfl (mul_int hn2 hd1 _)) rfl))
end
/-! ### the pen -/
def penK : List Ky := [.inr "cells", .inr "at", .inr "digits", .inr "count", .inr "fold"]
structure PnT where
  cells : List Int
  at_ : Int
  dg : Int
  ct : Int
  fo : Int
def PnT.mo (p : PnT) : MO := .dct penK [.lst (p.cells.map .int), .int p.at_, .int p.dg, .int p.ct, .int p.fo]
/-- the pen stands, at most n draws were made -/
structure PnT.Ok (p : PnT) (n : Nat) : Prop where
  a : 0 ≤ p.at_
  d : 0 ≤ p.dg
  c : 0 ≤ p.ct
  cn : p.ct ≤ n
  f : 0 ≤ p.fo
  fl : p.fo < 2147483648
theorem cell_at (cells : List Int) (i : Int) (h0 : 0 ≤ i) (h1 : i < cells.length) : getO (.lst (cells.map .int)) (.int i) = some (.int (cells[i.toNat]'(by omega))) := by
  show atI (cells.map .int) i = _
  unfold atI ixN
  rw [if_pos h0, List.length_map, if_pos h1]
  show (cells.map D.int)[i.toNat]? = _
  rw [List.getElem?_map, List.getElem?_eq_getElem (by omega)]
  rfl
/-- what a draw leads to -/
def DrawTo (R0 : R Fl) (m : Int) (n : Nat) (t : Sto) : Prop := ∃ r p', R0 = .ok (.rt (.int r)) (PnT.mo p' :: t) ∧ 0 ≤ r ∧ r < m ∧ p'.Ok n
def drawT1 : Ss := .cons (.asg (.name 4) (.bin .Add (.bin .Add (.ix (.v 0) (.c (.str "fold"))) (.bin .Mult (.ix (.v 0) (.c (.str "count"))) (.c (.int 6311)))) (.c (.int 181)))) (.cons (.rtn (.bin .Mod (.bin .FloorDiv (.bi .int (.cons (.bin .Mod (.bin .Pow (.v 4) (.c (.int 55))) (.c (.int 2305843009213693951))) .nil)) (.c (.int 1024))) (.v 1))) .nil)
def drawT0 : Ss := .cons (.ite (.cmp .Gt (.ix (.v 0) (.c (.str "digits"))) (.c (.int 0))) (.cons (.asg (.name 3) (.bin .Mod (.bi .int (.cons (.ix (.v 0) (.c (.str "digits"))) .nil)) (.v 1))) (.cons (.asg (.ix (.v 0) (.c (.str "digits"))) (.bin .FloorDiv (.ix (.v 0) (.c (.str "digits"))) (.v 1))) (.cons (.rtn (.v 3)) .nil))) .nil) drawT1
theorem mod_int {a b : Int} (h : 0 < b) (s : Sto) : binD .Mod (.int a) (.int b) s = .ok (.int (a % b)) s := by
  show opD (if decide (0 < b) then some (D.int (a % b)) else none) s = _
  rw [decide_eq_true h]
  rfl
theorem pow_int {a : Int} (ha : a.natAbs < 2 ^ 64) (s : Sto) : binD .Pow (.int a) (.int 55) s = .ok (.int (a ^ 55)) s := by
  show opD (if decide (0 ≤ (55 : Int)) && decide ((55 : Int) ≤ 1000000) && decide (a.natAbs < 2 ^ 64) then some (D.int (a ^ (55 : Int).toNat)) else none) s = _
  rw [decide_eq_true ha]
  rfl
theorem draw1 (k : Nat) (p : PnT) (m : Int) (n : Nat) (t : Sto) (o2 o3 : Option D) (hp : p.Ok n) (hn : n < 1099511627776) (hm : 0 < m) : DrawTo (evSs (cxK gl k) drawT1 [some (.mu 0), some (.int m), o2, o3, none] (PnT.mo p :: t)) m n t := by
  have hb : (p.fo + p.ct * 6311 + 181).natAbs < 2 ^ 64 := by
    have := hp.c
    have := hp.cn
    have := hp.f
    have := hp.fl
    omega
  refine ⟨((p.fo + p.ct * 6311 + 181) ^ 55 % 2305843009213693951).fdiv 1024 % m, p, ?_, Int.emod_nonneg _ (by omega), Int.emod_lt_of_pos _ hm, hp⟩
  refine r_set (d := .int (p.fo + p.ct * 6311 + 181)) (r_bin (r_bin rfl (r_bin rfl rfl (mul_int (szI_lt (k := 64) (by have := hp.c; have := hp.cn; omega) (by omega)) rfl _)) rfl) rfl rfl) (r_rtn (r_bin (r_bin (r_bi (r_es1 (r_bin (r_bin rfl rfl (pow_int hb _)) rfl (mod_int (by decide) _))) rfl) rfl (fdiv_int (by decide) rfl _)) rfl (mod_int hm _)))
theorem draw0 (k : Nat) (p : PnT) (m : Int) (n : Nat) (t : Sto) (o2 : Option D) (hp : p.Ok n) (hn : n < 1099511627776) (hm : 0 < m) (hz : szI m = true) : DrawTo (evSs (cxK gl k) drawT0 [some (.mu 0), some (.int m), o2, none, none] (PnT.mo p :: t)) m n t := by
  by_cases hd : 0 < p.dg
  · refine ⟨p.dg % m, { p with dg := p.dg.fdiv m }, ?_, Int.emod_nonneg _ (by omega), Int.emod_lt_of_pos _ hm, ⟨hp.a, ?_, hp.c, hp.cn, hp.f, hp.fl⟩⟩
    · refine r_in (tt_cmp (q := true) (s3 := PnT.mo p :: t) rfl rfl ?_) (r_set (r_bin (r_bi (r_es1 rfl) rfl) rfl (mod_int hm _)) (r_asg (r_bin rfl rfl (fdiv_int (by omega) hz _)) rfl (r_rtn rfl)))
      · show opB (some (decide (0 < p.dg))) _ = _
        rw [decide_eq_true hd]
        rfl
    · show 0 ≤ p.dg.fdiv m
      exact Int.fdiv_nonneg (by omega) (by omega)
  · have h0 : cmpD .Gt (.int p.dg) (.int 0) (PnT.mo p :: t) = .ok false (PnT.mo p :: t) := by
      show opB (some (decide (0 < p.dg))) _ = _
      rw [decide_eq_false hd]
      rfl
    obtain ⟨r, p', h1, h2⟩ := draw1 k p m n t o2 none hp hn hm
    exact ⟨r, p', r_by (tt_cmp rfl rfl h0) h1, h2⟩
theorem draw_ok (k : Nat) (p : PnT) (m : Int) (n : Nat) (t : Sto) (hp : p.Ok n) (hn : n + 1 < 1099511627776) (hm : 0 < m) (hz : szI m = true) : ∃ r p', (orcAt gl (k+1)).fn "_law_draw" [.mu 0, .int m] (PnT.mo p :: t) = .ok (.int r) (PnT.mo p' :: t) ∧ 0 ≤ r ∧ r < m ∧ p'.Ok (n + 1) := by
  have key : DrawTo (evSs (cxK gl k) F__law_draw.body (env0 F__law_draw [.mu 0, .int m]) (PnT.mo p :: t)) m (n + 1) t := by
    have hp1 : PnT.Ok { p with ct := p.ct + 1 } (n + 1) := ⟨hp.a, hp.d, by have := hp.c; show 0 ≤ p.ct + 1; omega, by have := hp.cn; show p.ct + 1 ≤ ((n + 1 : Nat) : Int); omega, hp.f, hp.fl⟩
    have fin : ∀ {R0 : R Fl}, DrawTo R0 m (n + 1) t → evSs (cxK gl k) F__law_draw.body (env0 F__law_draw [.mu 0, .int m]) (PnT.mo p :: t) = R0 → DrawTo (evSs (cxK gl k) F__law_draw.body (env0 F__law_draw [.mu 0, .int m]) (PnT.mo p :: t)) m (n + 1) t := fun h e => by rw [e]; exact h
    by_cases hq : p.dg = 0 ∧ p.at_ < p.cells.length
    · obtain ⟨q1, q2⟩ := hq
      have hcell := cell_at p.cells p.at_ hp.a q2
      generalize hcv : p.cells[p.at_.toNat]'(by have := hp.a; omega) = cell at hcell
      have ht : evT (cxK gl k) (.and (.cmp .Eq (.ix (.v 0) (.c (.str "digits"))) (.c (.int 0))) (.cmp .Lt (.ix (.v 0) (.c (.str "at"))) (.bi .len (.cons (.ix (.v 0) (.c (.str "cells"))) .nil)))) [some (.mu 0), some (.int m), none, none, none] (PnT.mo { p with ct := p.ct + 1 } :: t) = .ok true (PnT.mo { p with ct := p.ct + 1 } :: t) := by
        refine tt_and (q := true) (tt_cmp (s3 := PnT.mo { p with ct := p.ct + 1 } :: t) rfl rfl ?_) (tt_cmp rfl (r_bi (r_es1 rfl) rfl) ?_)
        · show opB (some (PyData.eqv (.int p.dg) (.int 0))) _ = _
          rw [q1]
          rfl
        · show opB (some (decide (p.at_ < ((p.cells.map D.int).length : Nat)))) _ = _
          rw [List.length_map, decide_eq_true q2]
          rfl
      have hget : evE (cxK gl k) (.ix (.ix (.v 0) (.c (.str "cells"))) (.ix (.v 0) (.c (.str "at")))) [some (.mu 0), some (.int m), none, none, none] (PnT.mo { p with ct := p.ct + 1 } :: t) = .ok (.int cell) (PnT.mo { p with ct := p.ct + 1 } :: t) := by
        refine r_ix rfl rfl ?_
        show opD (getO (.lst (p.cells.map .int)) (.int p.at_)) _ = _
        rw [hcell]
        rfl
      by_cases hc : (10 : Int) ^ 18 ≤ cell
      · have hpz : PnT.Ok { p with ct := p.ct + 1, at_ := p.at_ + 1, dg := cell - 10 ^ 18 } (n + 1) := ⟨by have := hp.a; show 0 ≤ p.at_ + 1; omega, by show 0 ≤ cell - 10 ^ 18; omega, hp1.c, hp1.cn, hp.f, hp.fl⟩
        have hset : evSs (cxK gl k) (.cons (.asg (.ix (.v 0) (.c (.str "digits"))) (.bin .Sub (.v 2) (.bin .Pow (.c (.int 10)) (.c (.int 18))))) .nil) [some (.mu 0), some (.int m), some (.int cell), none, none] (PnT.mo { p with ct := p.ct + 1, at_ := p.at_ + 1 } :: t) =
            .ok (.nx [some (.mu 0), some (.int m), some (.int cell), none, none]) (PnT.mo { p with ct := p.ct + 1, at_ := p.at_ + 1, dg := cell - 10 ^ 18 } :: t) := rfl
        refine fin (draw0 k _ m (n + 1) t (some (.int cell)) hpz hn hm hz) (r_cons rfl (r_cons (r_ite ht (r_set hget (r_cons rfl (r_cons (r_ite (q := true) (tt_cmp rfl rfl ?_) hset) rfl)))) rfl))
        show opB (some (decide ((10 : Int) ^ 18 ≤ cell))) _ = _
        rw [decide_eq_true hc]
        rfl
      · have hpz : PnT.Ok { p with ct := p.ct + 1, at_ := p.at_ + 1, fo := (p.fo * 30011 + cell) % 2147482921 } (n + 1) := ⟨by have := hp.a; show 0 ≤ p.at_ + 1; omega, hp.d, hp1.c, hp1.cn, Int.emod_nonneg _ (by omega), by
          have := Int.emod_lt_of_pos (p.fo * 30011 + cell) (b := 2147482921) (by omega)
          show (p.fo * 30011 + cell) % 2147482921 < 2147483648
          omega⟩
        have hset : evS (cxK gl k) (.asg (.ix (.v 0) (.c (.str "fold"))) (.bin .Mod (.bi .int (.cons (.bin .Add (.bin .Mult (.ix (.v 0) (.c (.str "fold"))) (.c (.int 30011))) (.v 2)) .nil)) (.c (.int 2147482921)))) [some (.mu 0), some (.int m), some (.int cell), none, none] (PnT.mo { p with ct := p.ct + 1, at_ := p.at_ + 1 } :: t) =
            .ok (.nx [some (.mu 0), some (.int m), some (.int cell), none, none]) (PnT.mo { p with ct := p.ct + 1, at_ := p.at_ + 1, fo := (p.fo * 30011 + cell) % 2147482921 } :: t) := by
          have hv : evE (cxK gl k) (.bin .Mod (.bi .int (.cons (.bin .Add (.bin .Mult (.ix (.v 0) (.c (.str "fold"))) (.c (.int 30011))) (.v 2)) .nil)) (.c (.int 2147482921))) [some (.mu 0), some (.int m), some (.int cell), none, none] (PnT.mo { p with ct := p.ct + 1, at_ := p.at_ + 1 } :: t) = .ok (.int ((p.fo * 30011 + cell) % 2147482921)) (PnT.mo { p with ct := p.ct + 1, at_ := p.at_ + 1 } :: t) :=
            r_bin (r_bi (r_es1 (r_bin (r_bin rfl rfl (mul_int (szI_lt (k := 32) (by have := hp.f; have := hp.fl; show p.fo.natAbs < 2 ^ 32; omega) (by omega)) rfl _)) rfl rfl)) rfl) rfl (mod_int (by decide) _)
          show bnd (evE (cxK gl k) (.bin .Mod _ _) _) _ _ = _
          rw [bnd_ok hv]
          rfl
        refine fin (draw0 k _ m (n + 1) t (some (.int cell)) hpz hn hm hz) (r_cons rfl (r_cons (r_ite ht (r_set hget (r_cons rfl (r_cons (r_ite (q := false) (tt_cmp rfl rfl ?_) (r_cons hset rfl)) rfl)))) rfl))
        show opB (some (decide ((10 : Int) ^ 18 ≤ cell))) _ = _
        rw [decide_eq_false hc]
        rfl
    · have ht : evT (cxK gl k) (.and (.cmp .Eq (.ix (.v 0) (.c (.str "digits"))) (.c (.int 0))) (.cmp .Lt (.ix (.v 0) (.c (.str "at"))) (.bi .len (.cons (.ix (.v 0) (.c (.str "cells"))) .nil)))) [some (.mu 0), some (.int m), none, none, none] (PnT.mo { p with ct := p.ct + 1 } :: t) = .ok false (PnT.mo { p with ct := p.ct + 1 } :: t) := by
        by_cases q1 : p.dg = 0
        · have q2 : ¬ p.at_ < p.cells.length := fun z => hq ⟨q1, z⟩
          refine tt_and (q := true) (tt_cmp (s3 := PnT.mo { p with ct := p.ct + 1 } :: t) rfl rfl ?_) (tt_cmp rfl (r_bi (r_es1 rfl) rfl) ?_)
          · show opB (some (PyData.eqv (.int p.dg) (.int 0))) _ = _
            rw [q1]
            rfl
          · show opB (some (decide (p.at_ < ((p.cells.map D.int).length : Nat)))) _ = _
            rw [List.length_map, decide_eq_false q2]
            rfl
        · refine tt_and (q := false) (tt_cmp rfl rfl ?_) rfl
          show opB (some (PyData.eqv (.int p.dg) (.int 0))) _ = _
          have : PyData.eqv (.int p.dg) (.int 0) = false := by simp [PyData.eqv, q1]
          rw [this]
          rfl
      exact fin (draw0 k _ m (n + 1) t none hp1 hn hm hz) (r_cons rfl (r_by ht rfl))
  obtain ⟨r, p', h1, h2, h3, h4⟩ := key
  exact ⟨r, p', call_rt f__law_draw rfl rfl rfl rfl h1, h2, h3, h4⟩
end L_k02
end
section
set_option linter.all false
set_option maxRecDepth 100000
set_option maxHeartbeats 1000003
namespace L_k02
open PySem Ev
theorem PnT.Ok.mono {p : PnT} {n m : Nat} (h : p.Ok n) (hm : n ≤ m) : p.Ok m := ⟨h.a, h.d, h.c, by have := h.cn; omega, h.f, h.fl⟩
theorem pick_ok (k : Nat) (p : PnT) (xs : List D) (n : Nat) (t : Sto) (hp : p.Ok n) (hn : n + 1 < 1099511627776) (h0 : 0 < xs.length) (h1 : xs.length < 1000) (hx : ∀ d ∈ xs, plainD d = true) : ∃ d p', (orcAt gl (k+2)).fn "_law_pick" [.mu 0, .lst xs] (PnT.mo p :: t) = .ok d (PnT.mo p' :: t) ∧ d ∈ xs ∧ p'.Ok (n + 1) := by
  obtain ⟨r, p', e1, r0, r1, o1⟩ := draw_ok k p xs.length n t hp hn (by omega) (szI_lt (k := 20) (by omega) (by omega))
  have hr : r.toNat < xs.length := by omega
  refine ⟨xs[r.toNat], p', call_rt f__law_pick rfl rfl rfl (hx _ (List.getElem_mem hr)) (r_rtn (r_ix (s1 := PnT.mo p :: t) (s2 := PnT.mo p' :: t) (x := .lst xs) rfl (r_call (r_esc rfl (r_es1 (r_bi (r_es1 rfl) rfl))) e1) ?_)), List.getElem_mem hr, o1⟩
  show opD (atI xs r) _ = _
  unfold atI ixN
  rw [if_pos r0, if_pos r1]
  show opD xs[r.toNat]? _ = _
  rw [List.getElem?_eq_getElem hr]
  rfl
/-! ### ratios -/
theorem mulB {a b : Int} {A B : Nat} (ha : a.natAbs ≤ A) (hb : b.natAbs ≤ B) : (a * b).natAbs ≤ A * B := by
  rw [Int.natAbs_mul]
  exact Nat.mul_le_mul ha hb
theorem fdiv_abs {a g : Int} (hg : g ≠ 0) (h : g ∣ a) : (a.fdiv g).natAbs ≤ a.natAbs := by
  obtain ⟨c, rfl⟩ := h
  rw [Int.mul_fdiv_cancel_left _ hg, Int.natAbs_mul]
  exact Nat.le_mul_of_pos_left _ (by omega)
theorem gz_dvd_l (a b : Int) : gz a b ∣ a := by
  unfold gz
  split
  · exact Int.gcd_dvd_left ..
  · exact Int.neg_dvd.mpr (Int.gcd_dvd_left ..)
theorem gz_dvd_r (a b : Int) : gz a b ∣ b := by
  unfold gz
  split
  · exact Int.gcd_dvd_right ..
  · exact Int.neg_dvd.mpr (Int.gcd_dvd_right ..)
/-- a ratio in lowest terms, small -/
structure Rt (n d : Int) : Prop where
  p : 0 < d
  g : Int.gcd n d = 1
  n : n.natAbs ≤ 1000000
  d : d.natAbs ≤ 1000000
theorem low_rt (a b : Int) (hb : 0 < b) (ha : a.natAbs ≤ 1000000) (hb2 : b.natAbs ≤ 1000000) : ∃ n d, lowD a b = .tup [.int n, .int d] ∧ Rt n d := by
  have hg : gz a b = (Int.gcd a b : Int) := by
    unfold gz
    rw [if_pos hb]
  have h0 : 0 < Int.gcd a b := Nat.pos_of_ne_zero fun z => by
    have := (Int.gcd_eq_zero_iff.mp z).2
    omega
  refine ⟨_, _, rfl, ⟨?_, ?_, Nat.le_trans (fdiv_abs (gz_ne (by omega)) (gz_dvd_l a b)) ha, Nat.le_trans (fdiv_abs (gz_ne (by omega)) (gz_dvd_r a b)) hb2⟩⟩
  · rw [hg, Int.fdiv_eq_ediv_of_nonneg _ (by omega)]
    exact Int.ediv_pos_of_pos_of_dvd hb (by omega) (Int.gcd_dvd_right ..)
  · rw [hg, Int.fdiv_eq_ediv_of_nonneg _ (by omega), Int.fdiv_eq_ediv_of_nonneg _ (by omega)]
    exact Int.gcd_ediv_gcd_ediv_gcd h0
theorem low_mul (n d b : Int) (hd : 0 < d) (hb : 0 < b) (hg : Int.gcd n d = 1) : lowD (n * b) (d * b) = .tup [.int n, .int d] := by
  have : gz (n * b) (d * b) = b := by
    unfold gz
    rw [if_pos (Int.mul_pos hd hb), Int.gcd_mul_right, hg]
    omega
  unfold lowD
  rw [this, Int.mul_fdiv_cancel _ (by omega), Int.mul_fdiv_cancel _ (by omega)]
theorem drawn_ok (k : Nat) (p : PnT) (m : Int) (n : Nat) (t : Sto) (hp : p.Ok n) (hn : n + 2 < 1099511627776) (h0 : 0 < m) (h1 : m ≤ 100000) : ∃ a b p', (orcAt gl (k+3)).fn "_law_drawn" [.mu 0, .int m] (PnT.mo p :: t) = .ok (.tup [.int a, .int b]) (PnT.mo p' :: t) ∧ Rt a b ∧ a.natAbs ≤ 100000 ∧ p'.Ok (n + 2) := by
  obtain ⟨r, p1, e1, r0, r1, o1⟩ := draw_ok (k+1) p (2 * m + 1) n t hp (by omega) (by omega) (szI_lt (k := 20) (by omega) (by omega))
  obtain ⟨b, p2, e2, hb, o2⟩ := pick_ok k p1 [.int 1, .int 1, .int 1, .int 2, .int 3] (n + 1) t o1 (by omega) (by simp) (by simp) (by simp [plainD])
  obtain ⟨bi, hbi, hb0, hb1⟩ : ∃ bi : Int, b = .int bi ∧ 0 < bi ∧ bi ≤ 3 := by
    simp only [List.mem_cons, List.not_mem_nil, or_false] at hb
    rcases hb with h | h | h | h | h <;> exact ⟨_, h, by decide, by decide⟩
  subst hbi
  have ha : (r - m).natAbs ≤ 100000 := by omega
  obtain ⟨a', b', e3, rt⟩ := low_rt (r - m) bi hb0 (by omega) (by omega)
  have e4 : a' = (r - m).fdiv (gz (r - m) bi) := by
    have := e3
    unfold lowD at this
    simp at this
    exact this.1.symm
  refine ⟨a', b', p2, ?_, rt, ?_, o2⟩
  · refine call_rt f__law_drawn rfl rfl rfl rfl (r_set (d := .int (r - m)) (s1 := PnT.mo p1 :: t) (r_bin (r_call (r_esc rfl (r_es1 (r_bin (r_bin rfl rfl (mul_int rfl (szI_lt (k := 20) (by omega) (by omega)) _)) rfl rfl))) e1) rfl rfl) (r_rtn (r_call (r_esc rfl (r_es1 (r_call (r_esc rfl (r_es1 rfl)) e2))) ?_)))
    rw [← e3]
    exact q_ok _ _ _ _ (by omega) (szI_lt (k := 20) (by omega) (by omega))
  · rw [e4]
    exact Nat.le_trans (fdiv_abs (gz_ne (by omega)) (gz_dvd_l _ _)) ha
/-- what is handed in for a ratio -/
inductive Hd : D → Int → Int → Prop where
  | i {n d : Int} : d = 1 → Hd (.int n) n d
  | t {n d b : Int} : 0 < b → b ≤ 5 → Hd (.tup [.int (n * b), .int (d * b)]) n d
  | l {n d b : Int} : 0 < b → b ≤ 5 → Hd (.lst [.int (n * b), .int (d * b)]) n d
def isL : D → Bool
  | .lst _ => true
  | _ => false
theorem Rt.zn {n d : Int} (h : Rt n d) : szI n = true := szI_lt (k := 20) (by have := h.n; omega) (by omega)
theorem Rt.zd {n d : Int} (h : Rt n d) : szI d = true := szI_lt (k := 20) (by have := h.d; omega) (by omega)
theorem handed_ok (k : Nat) (p : PnT) (a d : Int) (n : Nat) (t : Sto) (hp : p.Ok n) (hn : n + 3 < 1099511627776) (rt : Rt a d) : ∃ x p', (orcAt gl (k+3)).fn "_law_handed" [.mu 0, .tup [.int a, .int d]] (PnT.mo p :: t) = .ok x (PnT.mo p' :: t) ∧ Hd x a d ∧ plainD x = true ∧ p'.Ok (n + 3) := by
  have main : ∀ (q : PnT), q.Ok (n + 1) → ∃ x p', evSs (cxK gl (k+2)) (.cons (.asg (.name 2) (.call "_law_pick" (.cons (.v 0) (.cons (.lst false (.cons (.c (.int 1)) (.cons (.c (.int 1)) (.cons (.c (.int 2)) (.cons (.c (.int 5)) .nil))))) .nil))))
  (.cons (.rtn (.call "_law_pick" (.cons (.v 0) (.cons (.lst false (.cons (.tup (.cons (.bin .Mult (.ix (.v 1) (.c (.int 0))) (.v 2)) (.cons (.bin .Mult (.ix (.v 1) (.c (.int 1))) (.v 2)) .nil))) (.cons (.lst false (.cons (.bin .Mult (.ix (.v 1) (.c (.int 0))) (.v 2)) (.cons (.bin .Mult (.ix (.v 1) (.c (.int 1))) (.v 2)) .nil))) .nil))) .nil)))) .nil)) [some (.mu 0), some (.tup [.int a, .int d]), none] (PnT.mo q :: t) = .ok (.rt x) (PnT.mo p' :: t) ∧ Hd x a d ∧ plainD x = true ∧ p'.Ok (n + 3) := by
    intro q oq
    obtain ⟨b, p1, e1, hb, o1⟩ := pick_ok k q [.int 1, .int 1, .int 2, .int 5] (n + 1) t oq (by omega) (by simp) (by simp) (by simp [plainD])
    obtain ⟨bi, hbi, hb0, hb1⟩ : ∃ bi : Int, b = .int bi ∧ 0 < bi ∧ bi ≤ 5 := by
      simp only [List.mem_cons, List.not_mem_nil, or_false] at hb
      rcases hb with h | h | h | h <;> exact ⟨_, h, by decide, by decide⟩
    subst hbi
    obtain ⟨x, p2, e2, hx, o2⟩ := pick_ok k p1 [.tup [.int (a * bi), .int (d * bi)], .lst [.int (a * bi), .int (d * bi)]] (n + 2) t o1 (by omega) (by simp) (by simp) (by simp [plainD])
    have zb : szI bi = true := szI_lt (k := 20) (by omega) (by omega)
    refine ⟨x, p2, r_set (r_call (r_esc rfl (r_es1 rfl)) e1) (r_rtn (r_call (r_esc rfl (r_es1 (r_lst (r_esc (r_tup (r_esc (r_bin rfl rfl (mul_int rt.zn zb _)) (r_es1 (r_bin rfl rfl (mul_int rt.zd zb _)))) rfl) (r_es1 (r_lst (r_esc (r_bin rfl rfl (mul_int rt.zn zb _)) (r_es1 (r_bin rfl rfl (mul_int rt.zd zb _)))) rfl rfl))) rfl rfl))) e2)), ?_, ?_, o2⟩
    · simp only [List.mem_cons, List.not_mem_nil, or_false] at hx
      rcases hx with h | h <;> subst h
      · exact .t hb0 hb1
      · exact .l hb0 hb1
    · simp only [List.mem_cons, List.not_mem_nil, or_false] at hx
      rcases hx with h | h <;> subst h <;> rfl
  have ceq : ∀ (i j : Int) (s : Sto), cmpD .Eq (.int i) (.int j) s = .ok (decide (i = j)) s := fun i j s => by
    show opB (some (PyData.eqv (.int i) (.int j))) s = _
    have : PyData.eqv (.int i) (.int j) = decide (i = j) := by
      simp only [PyData.eqv]
      rfl
    rw [this]
    rfl
  by_cases hd : d = 1
  · obtain ⟨r, p1, e1, r0, r1, o1⟩ := draw_ok (k+1) p 2 n t hp (by omega) (by omega) rfl
    have ht : evT (cxK gl (k+2)) (.and (.cmp .Eq (.ix (.v 1) (.c (.int 1))) (.c (.int 1))) (.cmp .Eq (.call "_law_draw" (.cons (.v 0) (.cons (.c (.int 2)) .nil))) (.c (.int 0)))) [some (.mu 0), some (.tup [.int a, .int d]), none] (PnT.mo p :: t) = .ok (decide (r = 0)) (PnT.mo p1 :: t) := by
      refine tt_and (q := true) (tt_cmp (s3 := PnT.mo p :: t) rfl rfl ((ceq d 1 _).trans (congrArg (R.ok · _) (decide_eq_true hd)))) (tt_cmp (r_call rfl e1) rfl (ceq _ _ _))
    by_cases hr : r = 0
    · rw [decide_eq_true hr] at ht
      exact ⟨.int a, p1, call_rt f__law_handed rfl rfl rfl rfl (r_in ht (r_rtn rfl)), .i hd, rfl, o1.mono (by omega)⟩
    · rw [decide_eq_false hr] at ht
      obtain ⟨x, p2, e2, hx, hpl, o2⟩ := main p1 o1
      exact ⟨x, p2, call_rt f__law_handed rfl rfl rfl hpl (r_by ht e2), hx, hpl, o2⟩
  · have ht : evT (cxK gl (k+2)) (.and (.cmp .Eq (.ix (.v 1) (.c (.int 1))) (.c (.int 1))) (.cmp .Eq (.call "_law_draw" (.cons (.v 0) (.cons (.c (.int 2)) .nil))) (.c (.int 0)))) [some (.mu 0), some (.tup [.int a, .int d]), none] (PnT.mo p :: t) = .ok false (PnT.mo p :: t) :=
      tt_and (q := false) (tt_cmp (s3 := PnT.mo p :: t) rfl rfl ((ceq d 1 _).trans (congrArg (R.ok · _) (decide_eq_false hd)))) rfl
    obtain ⟨x, p2, e2, hx, hpl, o2⟩ := main p (hp.mono (by omega))
    exact ⟨x, p2, call_rt f__law_handed rfl rfl rfl hpl (r_by ht e2), hx, hpl, o2⟩
theorem told_ok (k : Nat) {x : D} {n d : Int} (h : Hd x n d) (rt : Rt n d) (s : Sto) : (orcAt gl (k+3)).fn "told" [x] s = .ok (.tup [.int n, .int d]) s := by
  cases h with
  | i h =>
    subst h
    exact told_int (k+1) n s
  | @t _ _ b h0 h1 =>
    rw [← low_mul n d b rt.p h0 rt.g]
    have := mulB (b := b) (B := 5) rt.d (by omega)
    exact told_tup k _ _ s (Int.mul_pos rt.p h0) (szI_lt (k := 30) (by omega) (by omega))
  | @l _ _ b h0 h1 =>
    rw [← low_mul n d b rt.p h0 rt.g]
    have := mulB (b := b) (B := 5) rt.d (by omega)
    exact told_lst k _ _ s (Int.mul_pos rt.p h0) (szI_lt (k := 30) (by omega) (by omega))
theorem ratio_ok (k : Nat) {x : D} {n d : Int} (h : Hd x n d) (rt : Rt n d) (s : Sto) : (orcAt gl (k+3)).fn "is_ratio" [x] s = .ok (.bl (!isL x)) s := by
  cases h with
  | i h => exact call_rt f_is_ratio rfl rfl rfl rfl (r_rtn (r_or (q := true) (r_call rfl (whole_int _ _ _)) rfl))
  | @t _ _ b h0 h1 =>
    refine call_rt f_is_ratio rfl rfl rfl rfl (r_rtn (r_or (q := false) (r_call rfl (whole_tup _ _ _)) (r_and (q := true) rfl (r_call rfl ((pair_tup _ _ _ _).trans ?_)))))
    rw [decide_eq_true (Int.mul_pos rt.p h0)]
    rfl
  | @l _ _ b h0 h1 => exact call_rt f_is_ratio rfl rfl rfl rfl (r_rtn (r_or (q := false) (r_call rfl (whole_lst _ _ _)) (r_and (q := false) rfl rfl)))
end L_k02
end
section
set_option linter.all false
set_option maxRecDepth 100000
set_option maxHeartbeats 1000003
namespace L_k02
open PySem Ev
def isT : R Fl → Bool
  | .ok (.rt (.bl true)) _ => true
  | _ => false
theorem isT_of {r : R Fl} (h : isT r = true) : ∃ s, r = .ok (.rt (.bl true)) s := by
  unfold isT at h
  split at h
  · exact ⟨_, rfl⟩
  · cases h
def dropS : Nat → Ss → Ss
  | n + 1, .cons _ r => dropS n r
  | _, r => r
def rest : Ss := dropS 4 F_law.body
def bads : List D := [.non, .str "1", .tup [.int 1], .tup [.int 1, .int 0], .tup [.int 1, .int (-2)], .tup [.bl true, .int 2], .tup [.int 1, .bl true], .bl true, .tup [.int 1, .int 2, .int 3], .lst [], .dct [] []]
def odds : List D := [.str "x", .tup [.int 0, .int 0], .non]
def zeros : List D := [.int 0, .tup [.int 0, .int 6]]
theorem rest_ok (p : PnT) (x0 x2 x3 x4 x5 x6 x7 : Option D) : (bads.all fun b => odds.all fun o => zeros.all fun z => isT (evSs (cxK gl 12) rest [x0, some (.mu 0), x2, x3, x4, x5, x6, x7, some b, some o, some z, none] [PnT.mo p])) = true := by kernel_rfl
end L_k02
end
section
set_option linter.all false
set_option maxRecDepth 100000
set_option maxHeartbeats 2000003
namespace L_k02
open PySem Ev
/-! ### repr of small ints -/
theorem reprD_of {d : D} {p : PyData} (h1 : toPyX d = some p) (h2 : p.leavesShort 40 = true) (h3 : 42 * p.bulk + 40 ≤ 1000000) (h4 : p.showable = true) (h5 : p.depth ≤ 64) (h6 : p.hasDict = false) : ∃ t, reprD d = some t := by
  have h7 := PyData.shown_le_bulk 40 (by omega) p h2
  refine ⟨p.shown, ?_⟩
  unfold reprD
  rw [h1]
  show (if _ then some p.shown else none) = _
  rw [decide_eq_true (by omega), h4, decide_eq_true h5, h6]
  rfl
theorem leaf_int {i : Int} (h : i.natAbs < 10 ^ 30) : PyData.leavesShort 40 (.int i) = true := by
  simp only [PyData.leavesShort, decide_eq_true_eq]
  have e := int_text_length_le10 (k := 30) (by decide) h
  show (Str.ofString (toString i)).length ≤ 40
  rw [ofString_length]
  omega
theorem show_int {i : Int} (h : i.natAbs < 10 ^ 30) : PyData.showable (.int i) = true := by
  simp only [PyData.showable, decide_eq_true_eq]
  by_cases h0 : i.natAbs = 0
  · rw [h0]; decide
  · exact (Nat.log2_lt h0).mpr (Nat.lt_trans h (by decide))
/-- a pair of small ints -/
structure Sm (d : D) (a b : Int) : Prop where
  e : d = .tup [.int a, .int b]
  a : a.natAbs < 10 ^ 30
  b : b.natAbs < 10 ^ 30
theorem low_sm (a b : Int) (hb : b ≠ 0) (ha : a.natAbs < 10 ^ 30) (hb2 : b.natAbs < 10 ^ 30) : ∃ x y, Sm (lowD a b) x y :=
  ⟨_, _, rfl, Nat.lt_of_le_of_lt (fdiv_abs (gz_ne hb) (gz_dvd_l a b)) ha, Nat.lt_of_le_of_lt (fdiv_abs (gz_ne hb) (gz_dvd_r a b)) hb2⟩
theorem repr_pair {d : D} {a b : Int} (h : Sm d a b) : ∃ t, reprD d = some t := by
  obtain ⟨rfl, ha, hb⟩ := h
  refine reprD_of (p := .tuple [.int a, .int b]) rfl ?_ ?_ ?_ ?_ ?_
  · simp only [PyData.leavesShort, PyData.leavesShortAll]
    have := leaf_int ha
    have := leaf_int hb
    simp only [PyData.leavesShort] at *
    simp [*]
  · simp [PyData.bulk, PyData.bulkAll]
  · simp only [PyData.showable, PyData.showableAll]
    have := show_int ha
    have := show_int hb
    simp only [PyData.showable] at *
    simp [*]
  · simp [PyData.depth, PyData.depthAll]
  · simp [PyData.hasDict, PyData.hasDictAll]
theorem repr_due {d1 d2 d3 d4 : D} {a1 b1 a2 b2 a3 b3 a4 b4 : Int} (r : Bool) (h1 : Sm d1 a1 b1) (h2 : Sm d2 a2 b2) (h3 : Sm d3 a3 b3) (h4 : Sm d4 a4 b4) : ∃ t, reprD (.lst [d1, d2, d3, d4, .bl r]) = some t := by
  obtain ⟨rfl, ha1, hb1⟩ := h1
  obtain ⟨rfl, ha2, hb2⟩ := h2
  obtain ⟨rfl, ha3, hb3⟩ := h3
  obtain ⟨rfl, ha4, hb4⟩ := h4
  refine reprD_of (p := .list [.tuple [.int a1, .int b1], .tuple [.int a2, .int b2], .tuple [.int a3, .int b3], .tuple [.int a4, .int b4], .bool r]) rfl ?_ ?_ ?_ ?_ ?_
  · simp only [PyData.leavesShort, PyData.leavesShortAll]
    have := leaf_int ha1
    have := leaf_int hb1
    have := leaf_int ha2
    have := leaf_int hb2
    have := leaf_int ha3
    have := leaf_int hb3
    have := leaf_int ha4
    have := leaf_int hb4
    simp only [PyData.leavesShort] at *
    simp [*]
  · simp [PyData.bulk, PyData.bulkAll]
  · simp only [PyData.showable, PyData.showableAll]
    have := show_int ha1
    have := show_int hb1
    have := show_int ha2
    have := show_int hb2
    have := show_int ha3
    have := show_int hb3
    have := show_int ha4
    have := show_int hb4
    simp only [PyData.showable] at *
    simp [*]
  · simp [PyData.depth, PyData.depthAll]
  · simp [PyData.hasDict, PyData.hasDictAll]
theorem bi_repr {d : D} {t : Str} {s : Sto} (hp : thD d s = d) (h : reprD d = some t) : biD .repr [d] s = .ok (.str t) s := by
  show opD ((reprD (thD d s)).map .str) s = _
  rw [hp, h]
  rfl
theorem ne_str (t : Str) (s : Sto) : cmpD .NotEq (.str t) (.str t) s = .ok false s := by
  show opB ((some (decide (t = t))).map (!·)) s = _
  rw [decide_eq_true rfl]
  rfl
theorem eq_int (i j : Int) (s : Sto) : cmpD .Eq (.int i) (.int j) s = .ok (decide (i = j)) s := by
  show opB (some (PyData.eqv (.int i) (.int j))) s = _
  have : PyData.eqv (.int i) (.int j) = decide (i = j) := by
    simp only [PyData.eqv]
    rfl
  rw [this]
  rfl
theorem ne_int (i j : Int) (s : Sto) : cmpD .NotEq (.int i) (.int j) s = .ok (!decide (i = j)) s := by
  show opB ((some (PyData.eqv (.int i) (.int j))).map (!·)) s = _
  have : PyData.eqv (.int i) (.int j) = decide (i = j) := by
    simp only [PyData.eqv]
    rfl
  rw [this]
  rfl
theorem share_ok {x y : D} {n1 d1 n2 d2 : Int} {k : Nat} {s : Sto} (hx : (orcAt gl (k+3)).fn "told" [x] s = .ok (.tup [.int n1, .int d1]) s) (hy : (orcAt gl (k+3)).fn "told" [y] s = .ok (.tup [.int n2, .int d2]) s)
    (hn1 : szI n1 = true) (hd1 : szI d1 = true) (hn2 : szI n2 = true) (hd2 : szI d2 = true) (h0 : n2 ≠ 0) (hb : d1 * n2 ≠ 0) (hz : szI (d1 * n2) = true) : (orcAt gl (k+4)).fn "share" [x, y] s = .ok (lowD (n1 * d2) (d1 * n2)) s :=
  call_rt f_share rfl rfl rfl rfl (r_par (r_esc (r_call rfl hx) (r_es1 (r_call rfl hy))) rfl (r_by (tt_cmp rfl rfl ((eq_int n2 0 _).trans (congrArg (R.ok · _) (decide_eq_false h0)))) (r_rtn (r_call rfl (parted_ok hn1 hd1 hn2 hd2 hb hz)))))
/-- one round's body -/
def turnB : Ss := match dropS 1 F_law.body with
  | .cons (.for_ _ _ b) _ => b
  | _ => .nil
theorem turn_ok (sc : D) (p : PnT) (n : Nat) (x2 x3 x4 x5 x6 x7 : Option D) (hp : p.Ok n) (hn : n + 20 < 1000000) : ∃ y3 y4 y5 y6 y7 p', evSs (cxK gl 12) turnB [some sc, some (.mu 0), x2, x3, x4, x5, x6, x7, none, none, none, none] [PnT.mo p] = .ok (.nx [some sc, some (.mu 0), x2, y3, y4, y5, y6, y7, none, none, none, none]) [PnT.mo p'] ∧ p'.Ok (n + 20) := by
  obtain ⟨mo, p1, e1, hm, o1⟩ := pick_ok 10 p [.int 4, .int 99999] n [] hp (by omega) (by simp) (by simp) (by simp [plainD])
  obtain ⟨mi, hmi, hm0, hm1⟩ : ∃ mi : Int, mo = .int mi ∧ 0 < mi ∧ mi ≤ 100000 := by
    simp only [List.mem_cons, List.not_mem_nil, or_false] at hm
    rcases hm with h | h <;> exact ⟨_, h, by decide, by decide⟩
  subst hmi
  obtain ⟨a, b, p2, e2, rt1, ha, o2⟩ := drawn_ok 9 p1 mi (n + 1) [] o1 (by omega) hm0 hm1
  obtain ⟨a2, b2, p3, e3, rt2, ha2, o3⟩ := drawn_ok 9 p2 9 (n + 3) [] o2 (by omega) (by omega) (by omega)
  obtain ⟨r, p4, e4, r0, r1, o4⟩ := draw_ok 11 p3 3 (n + 5) [] o3 (by omega) (by omega) rfl
  obtain ⟨a1, b1, rt, e5⟩ : ∃ a1 b1, Rt a1 b1 ∧ evS (cxK gl 12) (.ite (.cmp .Eq (.call "_law_draw" (.cons (.v 1) (.cons (.c (.int 3)) .nil))) (.c (.int 0))) (.cons (.asg (.name 3) (.call "_law_q" (.cons (.bin .Sub (.bin .Mult (.ix (.v 3) (.c (.int 0))) (.c (.int 5))) (.c (.int 3))) (.cons (.c (.int 999959)) .nil)))) .nil) .nil)
      [some sc, some (.mu 0), x2, some (.tup [.int a, .int b]), some (.tup [.int a2, .int b2]), x5, x6, x7, none, none, none, none] [PnT.mo p3] = .ok (.nx [some sc, some (.mu 0), x2, some (.tup [.int a1, .int b1]), some (.tup [.int a2, .int b2]), x5, x6, x7, none, none, none, none]) [PnT.mo p4] := by
    by_cases hr : r = 0
    · obtain ⟨a1, b1, e6, rt⟩ := low_rt (a * 5 - 3) 999959 (by omega) (by omega) (by omega)
      have hq := q_ok 10 (a * 5 - 3) 999959 [PnT.mo p4] (by omega) rfl
      rw [e6] at hq
      exact ⟨a1, b1, rt, r_ite (q := true) (tt_cmp (r_call rfl e4) rfl ((eq_int r 0 _).trans (congrArg (R.ok · _) (decide_eq_true hr)))) (r_set (r_call (r_esc (r_bin (r_bin rfl rfl (mul_int rt1.zn rfl _)) rfl rfl) (r_es1 rfl)) hq) rfl)⟩
    · exact ⟨a, b, rt1, r_ite (q := false) (tt_cmp (r_call rfl e4) rfl ((eq_int r 0 _).trans (congrArg (R.ok · _) (decide_eq_false hr)))) rfl⟩
  obtain ⟨x, p5, e6, hx, _, o5⟩ := handed_ok 9 p4 a1 b1 (n + 6) [] o4 (by omega) rt
  obtain ⟨y, p6, e7, hy, _, o6⟩ := handed_ok 9 p5 a2 b2 (n + 9) [] o5 (by omega) rt2
  have tx := told_ok 8 hx rt [PnT.mo p6]
  have ty := told_ok 8 hy rt2 [PnT.mo p6]
  have B12 := mulB rt.n rt2.d
  have B21 := mulB rt2.n rt.d
  have Bnn := mulB rt.n rt2.n
  have Bdd := mulB rt.d rt2.d
  have Bdn := mulB rt.d rt2.n
  have hdd : b1 * b2 ≠ 0 := Int.ne_of_gt (Int.mul_pos rt.p rt2.p)
  have zdd : szI (b1 * b2) = true := szI_lt (k := 50) (by omega) (by omega)
  have zdn : szI (b1 * a2) = true := szI_lt (k := 50) (by omega) (by omega)
  obtain ⟨_, _, s2⟩ := low_sm (a1 * b2 + a2 * b1) (b1 * b2) hdd (by omega) (by omega)
  obtain ⟨_, _, s3⟩ := low_sm (a1 * b2 - a2 * b1) (b1 * b2) hdd (by omega) (by omega)
  obtain ⟨_, _, s4⟩ := low_sm (a1 * a2) (b1 * b2) hdd (by omega) (by omega)
  have s1 : Sm (.tup [.int a1, .int b1]) a1 b1 := ⟨rfl, by have := rt.n; omega, by have := rt.d; omega⟩
  obtain ⟨tt, ht⟩ := repr_due (decide (a1 * b2 < a2 * b1)) s1 s2 s3 s4
  have hrat := ratio_ok 9 hx rt [PnT.mo p6]
  have xm : plainD x = true ∧ evE (cxK gl 12) (.notv (.isi (.v 5) [.ty "list"])) [some sc, some (.mu 0), x2, some (.tup [.int a1, .int b1]), some (.tup [.int a2, .int b2]), some x, some y, some (.lst [.tup [.int a1, .int b1], lowD (a1 * b2 + a2 * b1) (b1 * b2), lowD (a1 * b2 - a2 * b1) (b1 * b2), lowD (a1 * a2) (b1 * b2), .bl (decide (a1 * b2 < a2 * b1))]), none, none, none, none] [PnT.mo p6] = .ok (.bl (!isL x)) [PnT.mo p6] := by
    cases hx <;> exact ⟨rfl, rfl⟩
  obtain ⟨_, e8⟩ := xm
  have rb : ∀ q : Bool, ∃ t, reprD (.bl q) = some t := fun q => by cases q <;> exact ⟨_, rfl⟩
  obtain ⟨tb, hb⟩ := rb (!isL x)
  obtain ⟨q, e9⟩ : ∃ q, evT (cxK gl 12) (.and (.cmp .NotEq (.ix (.v 4) (.c (.int 0))) (.c (.int 0))) (.cmp .NotEq (.bi .repr (.cons (.call "share" (.cons (.v 5) (.cons (.v 6) .nil))) .nil)) (.bi .repr (.cons (.call "_law_share" (.cons (.v 3) (.cons (.v 4) .nil))) .nil)))) [some sc, some (.mu 0), x2, some (.tup [.int a1, .int b1]), some (.tup [.int a2, .int b2]), some x, some y, some (.lst [.tup [.int a1, .int b1], lowD (a1 * b2 + a2 * b1) (b1 * b2), lowD (a1 * b2 - a2 * b1) (b1 * b2), lowD (a1 * a2) (b1 * b2), .bl (decide (a1 * b2 < a2 * b1))]), none, none, none, none] [PnT.mo p6] = .ok q [PnT.mo p6] ∧ q = false := by
    refine ⟨false, ?_, rfl⟩
    by_cases h0 : a2 = 0
    · exact tt_and (q := false) (tt_cmp rfl rfl ((ne_int a2 0 _).trans (congrArg (fun z => R.ok (!z) _) (decide_eq_true h0)))) rfl
    · have hdn : b1 * a2 ≠ 0 := Int.mul_ne_zero (Int.ne_of_gt rt.p) h0
      obtain ⟨_, _, s5⟩ := low_sm (a1 * b2) (b1 * a2) hdn (by omega) (by omega)
      obtain ⟨t5, ht5⟩ := repr_pair s5
      exact tt_and (q := true) (tt_cmp rfl rfl ((ne_int a2 0 _).trans (congrArg (fun z => R.ok (!z) _) (decide_eq_false h0))))
        (tt_cmp (r_bi (r_es1 (r_call rfl (share_ok tx ty rt.zn rt.zd rt2.zn rt2.zd h0 hdn zdn))) (bi_repr rfl ht5)) (r_bi (r_es1 (r_call rfl (lshare_ok rt.zn rt.zd rt2.zn rt2.zd hdn zdn))) (bi_repr rfl ht5)) (ne_str _ _))
  obtain ⟨e9, rfl⟩ := e9
  refine ⟨some (.tup [.int a1, .int b1]), some (.tup [.int a2, .int b2]), some x, some y, some (.lst [.tup [.int a1, .int b1], lowD (a1 * b2 + a2 * b1) (b1 * b2), lowD (a1 * b2 - a2 * b1) (b1 * b2), lowD (a1 * a2) (b1 * b2), .bl (decide (a1 * b2 < a2 * b1))]), p6, ?_, o6.mono (by omega)⟩
  refine r_par (r_esc (r_call (r_esc rfl (r_es1 (r_call rfl e1))) e2) (r_es1 (r_call rfl e3))) rfl (r_cons e5 (r_par (r_esc (r_call rfl e6) (r_es1 (r_call rfl e7))) rfl (r_set (d := .lst [.tup [.int a1, .int b1], lowD (a1 * b2 + a2 * b1) (b1 * b2), lowD (a1 * b2 - a2 * b1) (b1 * b2), lowD (a1 * a2) (b1 * b2), .bl (decide (a1 * b2 < a2 * b1))]) (s1 := [PnT.mo p6])
    (r_lst (r_esc rfl (r_esc (r_call rfl (lplus_ok rt.zn rt.zd rt2.zn rt2.zd hdd zdd)) (r_esc (r_call rfl (lminus_ok rt.zn rt.zd rt2.zn rt2.zd hdd zdd)) (r_esc (r_call rfl (ltimes_ok rt.zn rt.zd rt2.zn rt2.zd hdd zdd)) (r_es1 (r_call rfl (lless_ok rt.zn rt.zd rt2.zn rt2.zd))))))) rfl rfl)
    (r_by (tt_cmp (r_bi (r_es1 (r_lst (r_esc (r_call rfl (told_ok 9 hx rt _)) (r_esc (r_call rfl (plus_ok tx ty rt.zn rt.zd rt2.zn rt2.zd hdd zdd)) (r_esc (r_call rfl (minus_ok tx ty rt.zn rt.zd rt2.zn rt2.zd hdd zdd)) (r_esc (r_call rfl (times_ok tx ty rt.zn rt.zd rt2.zn rt2.zd hdd zdd)) (r_es1 (r_call rfl (less_ok tx ty rt.zn rt.zd rt2.zn rt2.zd))))))) rfl rfl)) (bi_repr rfl ht)) (r_bi (r_es1 rfl) (bi_repr rfl ht)) (ne_str _ _))
    (r_by (tt_cmp (r_bi (r_es1 (r_call rfl hrat)) (bi_repr rfl hb)) (r_bi (r_es1 e8) (bi_repr rfl hb)) (ne_str _ _))
    (r_by e9 rfl))))))
end L_k02
end
section
set_option Elab.async false
set_option linter.all false
set_option maxRecDepth 100000
set_option maxHeartbeats 0
namespace L_k02
open PySem PySem.Spec PyProof.Rows L2 Ev
def top (i : Nat) : Stmt := PySem.Challenge.pw_hedgepapers_k02_ratios.main.body.getD i (.Pass ⟨0, 0, 0, 0⟩)
def mem (i j : Nat) : Stmt := (C8.clsBody (top i)).getD j (.Pass ⟨0, 0, 0, 0⟩)
def d_is_whole : Dn := { name := "is_whole", N := ["value"], params := defArgs (top 9), body := defBody (top 9), scope := defScope (top 9), F := F_is_whole }
def d_is_pair : Dn := { name := "is_pair", N := ["value"], params := defArgs (top 11), body := defBody (top 11), scope := defScope (top 11), F := F_is_pair }
def d_is_ratio : Dn := { name := "is_ratio", N := ["value"], params := defArgs (top 12), body := defBody (top 12), scope := defScope (top 12), F := F_is_ratio }
def d_lowest : Dn := { name := "lowest", N := ["top", "bottom", "by"], params := defArgs (top 13), body := defBody (top 13), scope := defScope (top 13), F := F_lowest }
def d_told : Dn := { name := "told", N := ["ratio"], params := defArgs (top 14), body := defBody (top 14), scope := defScope (top 14), F := F_told }
def d_summed : Dn := { name := "summed", N := ["one", "other"], params := defArgs (top 15), body := defBody (top 15), scope := defScope (top 15), F := F_summed }
def d_lessened : Dn := { name := "lessened", N := ["one", "other"], params := defArgs (top 16), body := defBody (top 16), scope := defScope (top 16), F := F_lessened }
def d_scaled : Dn := { name := "scaled", N := ["one", "other"], params := defArgs (top 17), body := defBody (top 17), scope := defScope (top 17), F := F_scaled }
def d_parted : Dn := { name := "parted", N := ["one", "other"], params := defArgs (top 18), body := defBody (top 18), scope := defScope (top 18), F := F_parted }
def d_below : Dn := { name := "below", N := ["one", "other"], params := defArgs (top 19), body := defBody (top 19), scope := defScope (top 19), F := F_below }
def d_plus : Dn := { name := "plus", N := ["one", "other", "first", "second"], params := defArgs (top 20), body := defBody (top 20), scope := defScope (top 20), F := F_plus }
def d_minus : Dn := { name := "minus", N := ["one", "other", "first", "second"], params := defArgs (top 21), body := defBody (top 21), scope := defScope (top 21), F := F_minus }
def d_times : Dn := { name := "times", N := ["one", "other", "first", "second"], params := defArgs (top 22), body := defBody (top 22), scope := defScope (top 22), F := F_times }
def d_share : Dn := { name := "share", N := ["one", "other", "first", "second"], params := defArgs (top 23), body := defBody (top 23), scope := defScope (top 23), F := F_share }
def d_less : Dn := { name := "less", N := ["one", "other", "first", "second"], params := defArgs (top 24), body := defBody (top 24), scope := defScope (top 24), F := F_less }
def d__law_pen : Dn := { name := "_law_pen", N := ["script", "fold", "cell"], params := defArgs (top 26), body := defBody (top 26), scope := defScope (top 26), F := F__law_pen }
def d__law_draw : Dn := { name := "_law_draw", N := ["pen", "many", "cell", "digit", "blend"], params := defArgs (top 27), body := defBody (top 27), scope := defScope (top 27), F := F__law_draw }
def d__law_pick : Dn := { name := "_law_pick", N := ["pen", "some"], params := defArgs (top 28), body := defBody (top 28), scope := defScope (top 28), F := F__law_pick }
def d__law_gcd : Dn := { name := "_law_gcd", N := ["one", "two", "lap"], params := defArgs (top 29), body := defBody (top 29), scope := defScope (top 29), F := F__law_gcd }
def d__law_q : Dn := { name := "_law_q", N := ["top", "bottom", "by"], params := defArgs (top 30), body := defBody (top 30), scope := defScope (top 30), F := F__law_q }
def d__law_plus : Dn := { name := "_law_plus", N := ["one", "two"], params := defArgs (top 31), body := defBody (top 31), scope := defScope (top 31), F := F__law_plus }
def d__law_times : Dn := { name := "_law_times", N := ["one", "two"], params := defArgs (top 32), body := defBody (top 32), scope := defScope (top 32), F := F__law_times }
def d__law_less : Dn := { name := "_law_less", N := ["one", "two"], params := defArgs (top 33), body := defBody (top 33), scope := defScope (top 33), F := F__law_less }
def d__law_minus : Dn := { name := "_law_minus", N := ["one", "two"], params := defArgs (top 34), body := defBody (top 34), scope := defScope (top 34), F := F__law_minus }
def d__law_share : Dn := { name := "_law_share", N := ["one", "two"], params := defArgs (top 35), body := defBody (top 35), scope := defScope (top 35), F := F__law_share }
def d__law_drawn : Dn := { name := "_law_drawn", N := ["pen", "most", "top"], params := defArgs (top 36), body := defBody (top 36), scope := defScope (top 36), F := F__law_drawn }
def d__law_handed : Dn := { name := "_law_handed", N := ["pen", "ratio", "by"], params := defArgs (top 37), body := defBody (top 37), scope := defScope (top 37), F := F__law_handed }
def d__law_fault : Dn := { name := "_law_fault", N := ["action", "error"], params := defArgs (top 38), body := defBody (top 38), scope := defScope (top 38), F := F__law_fault }
def d__law_are_due : Dn := { name := "_law_are_due", N := ["tries", "action", "due"], params := defArgs (top 39), body := defBody (top 39), scope := defScope (top 39), F := F__law_are_due }
def d_law : Dn := { name := "law", N := ["script", "pen", "lap", "one", "two", "a", "b", "due", "bad", "odd", "zero", "tries"], params := defArgs (top 40), body := defBody (top 40), scope := defScope (top 40), F := F_law }
def LD : LawD where
  defs := [d_is_whole, d_is_pair, d_is_ratio, d_lowest, d_told, d_summed, d_lessened, d_scaled, d_parted, d_below, d_plus, d_minus, d_times, d_share, d_less, d__law_pen, d__law_draw, d__law_pick, d__law_gcd, d__law_q, d__law_plus, d__law_times, d__law_less, d__law_minus, d__law_share, d__law_drawn, d__law_handed, d__law_fault, d__law_are_due]
  lw := d_law
  excs := [{ name := "BadNumber", fs := ["what", "number"], N := ["self", "what", "number"], params := defArgs (mem 3 0), body := defBody (mem 3 0), scope := defScope (mem 3 0) },
    { name := "BadText", fs := ["line", "column"], N := ["self", "line", "column"], params := defArgs (mem 4 0), body := defBody (mem 4 0), scope := defScope (mem 4 0) },
    { name := "BadRow", fs := ["row"], N := ["self", "row"], params := defArgs (mem 5 0), body := defBody (mem 5 0), scope := defScope (mem 5 0) },
    { name := "Unlike", fs := ["what"], N := ["self", "what"], params := defArgs (mem 6 0), body := defBody (mem 6 0), scope := defScope (mem 6 0) },
    { name := "TooMany", fs := ["what", "many", "limit"], N := ["self", "what", "many", "limit"], params := defArgs (mem 7 0), body := defBody (mem 7 0), scope := defScope (mem 7 0) }]
  base := "HedgeError"
  gcd := true
  lams := [{ nl := 12, fv := [10], body := (.call "share" (.cons (.c (.int 3)) (.cons (.v 10) .nil))) },
    { nl := 12, fv := [8], body := (.call "share" (.cons (.c (.int 1)) (.cons (.v 8) .nil))) },
    { nl := 12, fv := [8], body := (.call "share" (.cons (.v 8) (.cons (.c (.int 0)) .nil))) },
    { nl := 12, fv := [8], body := (.call "less" (.cons (.tup (.cons (.c (.int 1)) (.cons (.c (.int 2)) .nil))) (.cons (.v 8) .nil))) },
    { nl := 12, fv := [9, 8], body := (.call "times" (.cons (.v 9) (.cons (.v 8) .nil))) },
    { nl := 12, fv := [8], body := (.call "minus" (.cons (.c (.int 1)) (.cons (.v 8) .nil))) },
    { nl := 12, fv := [8, 9], body := (.call "plus" (.cons (.v 8) (.cons (.v 9) .nil))) },
    { nl := 12, fv := [8], body := (.call "told" (.cons (.v 8) .nil)) }]
end L_k02
end
section
set_option linter.all false
set_option maxRecDepth 100000
set_option maxHeartbeats 2000003
namespace L_k02
open PySem Ev
def depth : Nat := 12
def penB : Ss := .cons (.asg (.name 1) (.bin .Mod (.bi .int (.cons (.bin .Add (.bin .Mult (.v 1) (.c (.int 191))) (.v 2)) .nil)) (.c (.int 999999137)))) .nil
theorem pen_loop (k : Nat) (sc : D) : ∀ (ns : List Int) (f : Int) (o : Option D), 0 ≤ f → f < 2147483648 → ∃ f' o', loopF (forT (cxK gl k) (.name 2) penB) (ns.map .int) [some sc, some (.int f), o] [] = .ok (.nx [some sc, some (.int f'), o']) [] ∧ 0 ≤ f' ∧ f' < 2147483648
  | [], f, o, h0, h1 => ⟨f, o, rfl, h0, h1⟩
  | n :: ns, f, o, h0, h1 => by
    have l1 := Int.emod_lt_of_pos (f * 191 + n) (b := 999999137) (by omega)
    obtain ⟨f', o', e, q⟩ := pen_loop k sc ns ((f * 191 + n) % 999999137) (some (.int n)) (Int.emod_nonneg _ (by omega)) (by omega)
    refine ⟨f', o', loopF_nx ?_ e, q⟩
    show evSs (cxK gl k) penB [some sc, some (.int f), some (.int n)] [] = _
    exact r_set (r_bin (r_bi (r_es1 (r_bin (r_bin rfl rfl (mul_int (szI_lt (k := 40) (by omega) (by omega)) rfl _)) rfl rfl)) rfl) rfl (mod_int (by decide) _)) rfl
theorem pen_ok (k : Nat) (ns : List Int) : ∃ p, (orcAt gl (k+1)).fn "_law_pen" [.scr ns] [] = .ok (.mu 0) [PnT.mo p] ∧ p.Ok 0 := by
  obtain ⟨f', o', e, h0, h1⟩ := pen_loop k (.scr ns) ns 0 none (by omega) (by omega)
  refine ⟨⟨ns, 0, 0, 0, f'⟩, ?_, ⟨Int.le_refl _, Int.le_refl _, Int.le_refl _, Int.le_refl _, h0, h1⟩⟩
  rw [call_def f__law_pen rfl rfl]
  have hb : evSs (cxK gl k) F__law_pen.body (env0 F__law_pen [.scr ns]) [] = .ok (.rt (.mu 0)) [PnT.mo ⟨ns, 0, 0, 0, f'⟩] :=
    r_set rfl (r_for rfl e (r_rtn rfl))
  unfold runB
  have hb' : evSs (cxK gl k) F__law_pen.body (([.scr ns] : List D).map some ++ List.replicate (F__law_pen.nl - ([.scr ns] : List D).length) none) [] = .ok (.rt (.mu 0)) [PnT.mo ⟨ns, 0, 0, 0, f'⟩] := hb
  rw [hb']
  rfl
/-- all rounds -/
theorem rounds (sc : D) : ∀ (xs : List D) (n : Nat) (p : PnT) (x2 x3 x4 x5 x6 x7 : Option D), p.Ok n → n + 20 * xs.length < 1000000 → ∃ y2 y3 y4 y5 y6 y7 p', loopF (forT (cxK gl 12) (.name 2) turnB) xs [some sc, some (.mu 0), x2, x3, x4, x5, x6, x7, none, none, none, none] [PnT.mo p] = .ok (.nx [some sc, some (.mu 0), y2, y3, y4, y5, y6, y7, none, none, none, none]) [PnT.mo p'] ∧ p'.Ok (n + 20 * xs.length)
  | [], n, p, x2, x3, x4, x5, x6, x7, hp, hn => ⟨x2, x3, x4, x5, x6, x7, p, rfl, hp⟩
  | x :: xs, n, p, x2, x3, x4, x5, x6, x7, hp, hn => by
    rw [List.length_cons] at *
    obtain ⟨y3, y4, y5, y6, y7, p1, e1, o1⟩ := turn_ok sc p n (some x) x3 x4 x5 x6 x7 hp (by omega)
    obtain ⟨z2, z3, z4, z5, z6, z7, p2, e2, o2⟩ := rounds sc xs (n + 20) p1 (some x) y3 y4 y5 y6 y7 o1 (by omega)
    exact ⟨z2, z3, z4, z5, z6, z7, p2, loopF_nx e1 e2, o2.mono (by omega)⟩
theorem all3 {f : D → D → D → Bool} {xs ys zs : List D} (h : (xs.all fun b => ys.all fun o => zs.all fun z => f b o z) = true) {b o z : D} (hb : b ∈ xs) (ho : o ∈ ys) (hz : z ∈ zs) : f b o z = true := by
  simp only [List.all_eq_true] at h
  exact h b hb o ho z hz
theorem ev0 (ns : List Int) : ∃ s, evSs (cxK gl 12) F_law.body (some (.scr ns) :: List.replicate 11 none) [] = .ok (.rt (.bl true)) s := by
  obtain ⟨p, e0, o0⟩ := pen_ok 11 ns
  obtain ⟨y2, y3, y4, y5, y6, y7, p1, e1, o1⟩ := rounds (.scr ns) [.int 0, .int 1, .int 2, .int 3, .int 4, .int 5] 0 p none none none none none none o0 (by decide)
  obtain ⟨b, p2, e2, hb, o2⟩ := pick_ok 10 p1 bads _ [] o1 (by decide) (by decide) (by decide) (by decide)
  obtain ⟨o, p3, e3, ho, o3⟩ := pick_ok 10 p2 odds _ [] o2 (by decide) (by decide) (by decide) (by decide)
  obtain ⟨z, p4, e4, hz, o4⟩ := pick_ok 10 p3 zeros _ [] o3 (by decide) (by decide) (by decide) (by decide)
  have hfz : frzDs [o, z] [PnT.mo p4] = .ok [o, z] [PnT.mo p4] := by
    simp only [odds, zeros, List.mem_cons, List.not_mem_nil, or_false] at ho hz
    rcases ho with h | h | h <;> rcases hz with g | g <;> subst h <;> subst g <;> rfl
  obtain ⟨s, hr⟩ := isT_of (all3 (rest_ok p4 (some (.scr ns)) y2 y3 y4 y5 y6 y7) hb ho hz)
  refine ⟨s, r_set (r_call rfl e0) (r_for (s1 := [PnT.mo p]) (xs := [.int 0, .int 1, .int 2, .int 3, .int 4, .int 5]) rfl e1 (r_set (r_call rfl e2) (r_asg (r_tup (r_esc (r_call rfl e3) (r_es1 (r_call rfl e4))) hfz) rfl hr)))⟩
theorem ev (ns : List Int) (hl : ns.length ≤ 63) (hb : ∀ z ∈ ns, Builtin.Int.intBits z ≤ 1048576) : ∃ s, LD.run depth ns = .ok (.rt (.bl true)) s := ev0 ns
end L_k02
end
section
set_option Elab.async false
set_option linter.all false
set_option maxRecDepth 100000
set_option maxHeartbeats 0
namespace L_k02
open PySem PySem.Spec PyProof.Rows L2 Ev
abbrev R : PySem.W.OpenRow := PySem.W.OpenLaw.row PySem.Challenge.rw_hedgepapers_k02_ratios
abbrev qv : Program := PySem.W.view R.prog [40]
def names : List PySem.Str := (["gcd", "HedgeError", "BadNumber", "BadText", "BadRow", "Unlike", "TooMany", "is_whole", "is_pair", "is_ratio", "lowest", "told", "summed", "lessened", "scaled", "parted", "below", "plus", "minus", "times", "share", "less", "_law_pen", "_law_draw", "_law_pick", "_law_gcd", "_law_q", "_law_plus", "_law_times", "_law_less"] : List PySem.Str) ++ (["_law_minus", "_law_share", "_law_drawn", "_law_handed", "_law_fault", "_law_are_due"] : List PySem.Str)
abbrev hk : PySem.W.Hook := Ev.hookE 5 LD.fa LD.fn [("law", none)] LD.ex
def ob (s : PySem.W.SharedT) : He.AlX := Ev.obsE 5 LD.fa LD.fn [("law", none)] LD.ex (HandSHeadRun.getT s)
theorem ob_eq (s : PySem.W.SharedT) : ob s = hk.obs s.abs := Ev.obsE_eq (HandSHeadRun.getT_eq s)
theorem okL : LD.okB = true := by decide +kernel
theorem run (w : World) : HandSHeadRun.RunEqI R qv hk ob 20000 names w := by
  unfold HandSHeadRun.RunEqI
  kernel_rfl
end L_k02
end
section
set_option Elab.async false
set_option linter.all false
set_option maxRecDepth 100000
set_option maxHeartbeats 0
open PySem PySem.W PySem.Calls PyProof.Rows
theorem PySem.Challenge.cw_hedgepapers_k02_ratios_holds : PySem.Challenge.rw_hedgepapers_k02_ratios.Holds := by
  w_on; o_law
  refine HandSHeadRun.head_imp (r := OpenLaw.row PySem.Challenge.rw_hedgepapers_k02_ratios) (q := L_k02.qv) (H := L_k02.hk) (ob := L_k02.ob) (M := 20000) (loose := L_k02.names) (d := HandSHeadRun.topDef (OpenLaw.row PySem.Challenge.rw_hedgepapers_k02_ratios).prog 40) (kwd := []) L_k02.ob_eq
    L_k02.run (by kernel_rfl) (by kernel_rfl) (by kernel_rfl) (by rfl) (by first | assumption | decide +kernel) (by decide +kernel) ⟨rfl, rfl, rfl, rfl, rfl, by decide +kernel⟩ ?hw ?hc
  case hw => w_witness2
  case hc =>
    refine Ev.walk_ev (l := PySem.Challenge.rw_hedgepapers_k02_ratios) (n := 63) rfl (by decide) (by kernel_rfl) ?F
    intro w mg fa h Y G hmg0
    obtain ⟨K, KX, c⟩ := Y
    have hmg : mg ("law" : PySem.Str) = some (.ref fa) := by
      have e : (HandSHeadRun.topDef (OpenLaw.row PySem.Challenge.rw_hedgepapers_k02_ratios).prog 40).name = ("law" : PySem.Str) := by kernel_rfl
      rw [← e]
      exact hmg0
    exact ⟨K, KX, Ev.ev_at L_k02.okL L_k02.depth ⟨rfl, by decide, by decide⟩ KX G c hmg L_k02.ev⟩
end
