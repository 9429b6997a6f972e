import PyProof.Rows.All
import Wide.All
import OpenK.AllK
import Wide.FinOn
import HandS.ForMost
import HandS.ForExc
import HandS.Nested
import HandS.NestedK
import HandS.Lambda
import HandS.TupAny
import HandS.TupMul
import HandS.Conv
import HandS.IsInst
import HandS.Zip
import HandS.Wide
import HandS.ExcInit
import HandS.ExcIs
import HandS.ExcField
import HandS.Property
import HandS.ClsMeth
import HandS.MakeKwOnly
import HandS.CallLocal
import HandS.CallSlots
import HandS.TryMany
import HandS.Defaults
import HandS.Flow
import HandS.SetFor
import HandS.Walk
import HandS.Comp
import KE.KExcIs
import KE.GoesEnum
import PyProof.EnumMake
import HandS.EndOwn
import KE.KNest
import PySem.Challenge.RW_wornbridges_k01_towns_validated
set_option Elab.async false
set_option linter.all false
/-! CL1: plain data, a store of changing objects, and the pieces (readings) of a program over them: total functions, no heap in sight. -/
namespace CL
open PySem

abbrev Key := Sum Int Str

inductive D where
  | non | bl (b : Bool) | int (i : Int) | str (s : Str) | byt (b : Array UInt8)
  | tup (xs : List D) | lst (xs : List D) | scr (ns : List Int)
  | dct (ks : List Key) (xs : List D)
  | obj (C : Addr) (ns : List Str) (xs : List D)
  | ptr (i : Nat) | ref (a : Addr) | ty (n : String)
  deriving Inhabited

/-- what stands in the store -/
inductive MO where
  | lst (xs : List D)
  | dct (ks : List Key) (xs : List D)
  | ins (C : Addr) (ns : List Str) (xs : List D)
abbrev Store := List MO
structure Exn where
  cls : Addr
  ns : List Str
  xs : List D
/-- a name's slot: nothing, a value, a list of its own, a dict of its own, the exception in hand -/
inductive SV where
  | u | d (x : D) | l (xs : List D) | m (ks : List Key) (xs : List D) | x (e : Exn) | f
abbrev Sl := List SV

inductive R (α : Type) where
  | ok (a : α) (S : Store) | exc (x : Exn) (S : Store) | bad
@[simp] def R.bind {α β : Type} (r : R α) (f : α → Store → R β) : R β := match r with
  | .ok a S => f a S
  | .exc x S => .exc x S
  | .bad => .bad
abbrev C (α : Type) := Sl → Store → R α
abbrev CE := C D
abbrev CT := C Bool
abbrev CA := C (List D)
/-- how a block ends -/
inductive O where
  | nx (s : Sl) (S : Store) | rt (d : D) (S : Store) | bk (s : Sl) (S : Store) | ct (s : Sl) (S : Store) | exc (x : Exn) (s : Sl) (S : Store) | bad
abbrev CS := Sl → Store → O
/-- a def on data -/
abbrev G := List D → Store → R D

/-! ### expressions -/
def slotD (v : Option SV) (S : Store) : R D := match v with
  | some (.d x) => .ok x S
  | _ => .bad
def cVar (i : Nat) : CE := fun s S => slotD s[i]? S
def cK (x : D) : CE := fun _ S => .ok x S
def cNo : CE := fun _ _ => .bad
def c1 (f : D → Store → R D) (a : CE) : CE := fun s S => (a s S).bind f
def c2 (f : D → D → Store → R D) (a b : CE) : CE := fun s S => (a s S).bind fun x S1 => (b s S1).bind fun y S2 => f x y S2
def aNil : CA := fun _ S => .ok [] S
def aCons (a : CE) (r : CA) : CA := fun s S => (a s S).bind fun x S1 => (r s S1).bind fun xs S2 => .ok (x :: xs) S2
/-- a call of something known on values -/
def cApp (f : List D → Store → R D) (a : CA) : CE := fun s S => (a s S).bind f
def cTup (a : CA) : CE := fun s S => (a s S).bind fun xs S1 => if xs.length ≤ 16777216 then .ok (.tup xs) S1 else .bad
def cLst (a : CA) : CE := fun s S => (a s S).bind fun xs S1 => if xs.length ≤ 16777216 then .ok (.lst xs) S1 else .bad
def tB (a : CE) : CT := fun s S => (a s S).bind fun x S1 => match x with
  | .bl b => .ok b S1
  | _ => .bad
def tNot (a : CT) : CT := fun s S => (a s S).bind fun b S1 => .ok (!b) S1
def tAnd (a b : CT) : CT := fun s S => (a s S).bind fun x S1 => if x then b s S1 else .ok false S1
def tOr (a b : CT) : CT := fun s S => (a s S).bind fun x S1 => if x then .ok true S1 else b s S1
def cIf (t : CT) (a b : CE) : CE := fun s S => (t s S).bind fun x S1 => if x then a s S1 else b s S1
/-- and, or as values; all but the last are truth values -/
def cAnd (a b : CE) : CE := fun s S => (a s S).bind fun x S1 => match x with
  | .bl c => if c then b s S1 else .ok (.bl false) S1
  | _ => .bad
def cOr (a b : CE) : CE := fun s S => (a s S).bind fun x S1 => match x with
  | .bl c => if c then .ok (.bl true) S1 else b s S1
  | _ => .bad
def cNot (a : CE) : CE := fun s S => (a s S).bind fun x S1 => match x with
  | .bl c => .ok (.bl (!c)) S1
  | _ => .bad
/-- a p b q c -/
def cChain (f g : D → D → Store → R D) (a b c : CE) : CE := fun s S => (a s S).bind fun x S1 => (b s S1).bind fun y S2 => (f x y S2).bind fun z S3 => match z with
  | .bl k => if k then (c s S3).bind fun w S4 => g y w S4 else .ok (.bl false) S3
  | _ => .bad

/-! ### operations on values -/
def oAdd : D → D → Store → R D
  | .int i, .int j, S => .ok (.int (i + j)) S
  | .str x, .str y, S => if x.length + y.length ≤ 16777216 then .ok (.str (x ++ y)) S else .bad
  | .tup xs, .tup ys, S => if xs.length + ys.length ≤ 16777216 then .ok (.tup (xs ++ ys)) S else .bad
  | .lst xs, .lst ys, S => if xs.length + ys.length ≤ 16777216 then .ok (.lst (xs ++ ys)) S else .bad
  | .ptr i, .lst ys, S => match S[i]? with
    | some (.lst xs) => if xs.length + ys.length ≤ 16777216 then .ok (.lst (xs ++ ys)) S else .bad
    | _ => .bad
  | _, _, _ => .bad
def oSub : D → D → Store → R D
  | .int i, .int j, S => .ok (.int (i - j)) S
  | _, _, _ => .bad
/-- one factor below 2 ^ 64 -/
def smallI (i : Int) : Bool := decide (-(2 ^ 64) < i) && decide (i < 2 ^ 64)
def oMul : D → D → Store → R D
  | .int i, .int j, S => if smallI i || smallI j then .ok (.int (i * j)) S else .bad
  | .tup xs, .int k, S => if xs ≠ [] ∧ 2 ≤ k ∧ k ≤ 1000 ∧ xs.length ≤ 1000 then .ok (.tup (List.replicate k.toNat xs).flatten) S else .bad
  | .lst xs, .int k, S => if -(2 ^ 63) ≤ k ∧ k < 2 ^ 63 ∧ xs.length * k.toNat ≤ 16777216 then .ok (.lst (List.replicate k.toNat xs).flatten) S else .bad
  | _, _, _ => .bad
def oMod : D → D → Store → R D
  | .int i, .int j, S => if 0 < j then .ok (.int (i % j)) S else .bad
  | _, _, _ => .bad
def oDiv : D → D → Store → R D
  | .int i, .int j, S => if 0 < j ∧ j.natAbs.log2 < 9000 then .ok (.int (i / j)) S else .bad
  | _, _, _ => .bad
def oPow : D → D → Store → R D
  | .int i, .int j, S => if 0 ≤ j ∧ j ≤ 1000000 ∧ i.natAbs < 2 ^ 64 then .ok (.int (i ^ j.toNat)) S else .bad
  | _, _, _ => .bad
def oNeg : D → Store → R D
  | .int i, S => .ok (.int (-i)) S
  | _, _ => .bad
def oCmp (p : Int → Int → Bool) : D → D → Store → R D
  | .int i, .int j, S => .ok (.bl (p i j)) S
  | _, _, _ => .bad
def oLt := oCmp fun i j => decide (i < j)
def oLe := oCmp fun i j => decide (i ≤ j)
def oGt := oCmp fun i j => decide (j < i)
def oGe := oCmp fun i j => decide (j ≤ i)
def isNon : D → Bool
  | .non => true
  | _ => false
def oIsN : D → Store → R D := fun x S => .ok (.bl (isNon x)) S
def oNotN : D → Store → R D := fun x S => .ok (.bl (!isNon x)) S

def xIsN : D → D → Store → R D := fun x y S => match y with
  | .non => oIsN x S
  | _ => .bad
def xNotN : D → D → Store → R D := fun x y S => match y with
  | .non => oNotN x S
  | _ => .bad

/-! ### equality of data -/
mutual
def toPy : D → Option PyData
  | .non => some .none
  | .bl b => some (.bool b)
  | .int i => some (.int i)
  | .str s => some (.str s)
  | .tup xs => (toPys xs).map .tuple
  | .lst xs => (toPys xs).map .list
  | .byt _ => none
  | .scr _ => none
  | .dct _ _ => none
  | .obj _ _ _ => none
  | .ptr _ => none
  | .ref _ => none
  | .ty _ => none
def toPys : List D → Option (List PyData)
  | [] => some []
  | x :: xs => match toPy x, toPys xs with
    | some d, some ds => some (d :: ds)
    | _, _ => none
end
/-- what stands behind a pointer to a list, as data -/
def look (S : Store) : D → D
  | .ptr i => match S[i]? with
    | some (.lst xs) => .lst xs
    | _ => .ptr i
  | x => x
def oEq (neg : Bool) : D → D → Store → R D := fun x y S => match toPy (look S x), toPy (look S y) with
  | some d, some e => if SeqAt.shaped d && SeqAt.shaped e then .ok (.bl (if neg then !PyData.eqv d e else PyData.eqv d e)) S else .bad
  | _, _ => .bad

/-- a list's greatest length -/
def fits (n : Nat) : Bool := decide (n ≤ 16777216)
/-! ### lists, tuples -/
/-- the items of a tuple, a list, the script -/
def itemsOf (S : Store) : D → Option (List D)
  | .tup xs => some xs
  | .lst xs => some xs
  | .scr ns => some (ns.map D.int)
  | .ptr i => match S[i]? with
    | some (.lst xs) => some xs
    | _ => none
  | _ => none
def oIx : D → D → Store → R D := fun x y S => match itemsOf S x, y with
  | some xs, .int i => match L2.atI xs i with
    | some v => .ok v S
    | none => .bad
  | _, _ => .bad
/-- t[a:b], a tuple, a list, a text; a part may lack -/
def cutL (xs : List D) (lo hi : Option Int) : List D := (xs.drop (HT.sIx xs.length 0 lo)).take (HT.sIx xs.length xs.length hi - HT.sIx xs.length 0 lo)
def oCut (x : D) (lo hi : Option Int) (S : Store) : R D := match x with
  | .tup xs => .ok (.tup (cutL xs lo hi)) S
  | .lst xs => .ok (.lst (cutL xs lo hi)) S
  | .str z => if z.length ≤ 16777216 then .ok (.str (L2.cutS z lo hi)) S else .bad
  | .ptr i => match S[i]? with
    | some (.lst xs) => .ok (.lst (cutL xs lo hi)) S
    | _ => .bad
  | _ => .bad
abbrev CO := C (Option Int)
def oNone : CO := fun _ S => .ok none S
def oSome (a : CE) : CO := fun s S => (a s S).bind fun x S1 => match x with
  | .int i => .ok (some i) S1
  | _ => .bad
def cCut (a : CE) (lo hi : CO) : CE := fun s S => (a s S).bind fun x S1 => (lo s S1).bind fun l S2 => (hi s S2).bind fun h S3 => oCut x l h S3

/-! ### built-ins -/
def bLen : List D → Store → R D := fun vs S => match vs with
  | [.str z] => if z.length ≤ 16777216 then .ok (.int z.length) S else .bad
  | [.byt b] => if b.size ≤ 16777216 then .ok (.int b.size) S else .bad
  | [x] => match itemsOf S x with
    | some xs => .ok (.int xs.length) S
    | none => .bad
  | _ => .bad
def bInt : List D → Store → R D := fun vs S => match vs with
  | [.int i] => .ok (.int i) S
  | [.bl b] => .ok (.int (if b then 1 else 0)) S
  | _ => .bad
def bMax2 : List D → Store → R D := fun vs S => match vs with
  | [.int i, .int j] => .ok (.int (if j > i then j else i)) S
  | _ => .bad
def bMin2 : List D → Store → R D := fun vs S => match vs with
  | [.int i, .int j] => .ok (.int (if j < i then j else i)) S
  | _ => .bad
def bList : List D → Store → R D := fun vs S => match vs with
  | [x] => match itemsOf S x with
    | some xs => .ok (.lst xs) S
    | none => .bad
  | _ => .bad
def bTuple : List D → Store → R D := fun vs S => match vs with
  | [.tup xs] => .ok (.tup xs) S
  | [.lst xs] => .ok (.tup xs) S
  | [.scr ns] => .ok (.tup (ns.map D.int)) S
  | [.ptr i] => match S[i]? with
    | some (.lst xs) => .ok (.tup xs) S
    | _ => .bad
  | _ => .bad
def bStrI : List D → Store → R D := fun vs S => match vs with
  | [.int i] => if i.natAbs.log2 < 1920 then .ok (.str (toString i)) S else .bad
  | _ => .bad
def intsOf : List D → Option (List Int)
  | [] => some []
  | .int i :: xs => (intsOf xs).map (i :: ·)
  | _ :: _ => none
def bSum : List D → Store → R D := fun vs S => match vs with
  | [x] => match (itemsOf S x).bind intsOf with
    | some ns => .ok (.int ns.sum) S
    | none => .bad
  | _ => .bad
/-- the built-in type of a datum -/
def tyOf (S : Store) : D → Option String
  | .non => some "NoneType"
  | .bl _ => some "bool"
  | .int _ => some "int"
  | .str _ => some "str"
  | .byt _ => some "bytes"
  | .tup _ => some "tuple"
  | .lst _ => some "list"
  | .scr _ => some "list"
  | .dct _ _ => some "dict"
  | .ptr i => match S[i]? with
    | some (.lst _) => some "list"
    | some (.dct _ _) => some "dict"
    | _ => none
  | _ => none
/-- isinstance(x, T), T a built-in type or a tuple of such -/
def bIsi : List D → Store → R D := fun vs S => match vs with
  | [x, .ty t] => match (tyOf S x).bind fun a => L2.kitB a t with
    | some b => .ok (.bl b) S
    | none => .bad
  | [x, .tup ts] => match tyOf S x with
    | some a => match kits a ts with
      | some b => .ok (.bl b) S
      | none => .bad
    | none => .bad
  | _ => .bad
where
  kits (a : String) : List D → Option Bool
    | [] => some false
    | .ty t :: ts => match L2.kitB a t, kits a ts with
      | some b, some c => some (b || c)
      | _, _ => none
    | _ => none
/-! ### calls -/
def cCall (g : G) (a : CA) : CE := cApp g a
/-- the def's body run on its arguments -/
def run (n : Nat) (b : CS) : G := fun ds S => match b (ds.map SV.d ++ List.replicate (n - ds.length) SV.u) S with
  | .nx _ S' => .ok .non S'
  | .rt d S' => .ok d S'
  | .exc x _ S' => .exc x S'
  | _ => .bad
/-- an attribute of an instance -/
def fieldOf (S : Store) (x : D) (f : Str) : Option D := match x with
  | .obj _ ns xs => (ns.zip xs).lookup f
  | .ptr i => match S[i]? with
    | some (.ins _ ns xs) => (ns.zip xs).lookup f
    | _ => none
  | _ => none
/-- its class, its attributes' names -/
def classOf (S : Store) (x : D) : Option (Addr × List Str) := match x with
  | .obj C ns _ => some (C, ns)
  | .ptr i => match S[i]? with
    | some (.ins C ns _) => some (C, ns)
    | _ => none
  | _ => none
def cFld (C : Addr) (f : Str) (a : CE) : CE := fun s S => (a s S).bind fun x S1 => match classOf S1 x, fieldOf S1 x f with
  | some (C', _), some v => if C' = C then .ok v S1 else .bad
  | _, _ => .bad
/-- o.m(..), m a method of the class at C -/
def cMeth (C : Addr) (m : Str) (g : G) (o : CE) (a : CA) : CE := fun s S => (o s S).bind fun x S1 => match classOf S1 x with
  | some (C', ns) => if C' = C ∧ m ∉ ns then (a s S1).bind fun xs S2 => g (x :: xs) S2 else .bad
  | none => .bad
/-- o.p, p a property -/
def cProp (C : Addr) (g : G) (o : CE) : CE := fun s S => (o s S).bind fun x S1 => match classOf S1 x with
  | some (C', _) => if C' = C then g [x] S1 else .bad
  | none => .bad
/-- C(..): a new object of the store, made by g; it stays there -/
def cMake (C : Addr) (g : G) (a : CA) : CE := fun s S => (a s S).bind fun xs S1 => (g (.ptr S1.length :: xs) (S1 ++ [.ins C [] []])).bind fun r S2 => match r with
  | .non => .ok (.ptr S1.length) S2
  | _ => .bad

/-! ### statements -/
def oDo {α : Type} (r : R α) (z : Sl) (f : α → Store → O) : O := match r with
  | .ok a S => f a S
  | .exc x S => .exc x z S
  | .bad => .bad
def sNil : CS := fun z S => .nx z S
def sSeq (a b : CS) : CS := fun z S => match a z S with
  | .nx z' S' => b z' S'
  | o => o
def sBreak : CS := fun z S => .bk z S
def sCont : CS := fun z S => .ct z S
def sSet (i : Nat) (c : CE) : CS := fun z S => oDo (c z S) z fun d S' => .nx (z.set i (.d d)) S'
def sExpr (c : CE) : CS := fun z S => oDo (c z S) z fun _ S' => .nx z S'
def sRet (c : CE) : CS := fun z S => oDo (c z S) z fun d S' => .rt d S'
def sRetN : CS := fun _ S => .rt .non S
def sIf (t : CT) (a b : CS) : CS := fun z S => oDo (t z S) z fun c S' => if c then a z S' else b z S'
def sNever : CS := fun _ _ => .bad
/-- a target: a name, a tuple of targets -/
abbrev Tg := D → Sl → Option Sl
abbrev Tgs := List D → Sl → Option Sl
def gN (i : Nat) : Tg := fun d z => some (z.set i (.d d))
def gNil : Tgs := fun ds z => match ds with
  | [] => some z
  | _ => none
def gCons (g : Tg) (r : Tgs) : Tgs := fun ds z => match ds with
  | d :: ds => (g d z).bind (r ds)
  | [] => none
def gTup (n : Nat) (g : Tgs) : Tg := fun d z => match d with
  | .tup xs => if xs.length = n then g xs z else none
  | _ => none
def sAsg (c : CE) (g : Tg) : CS := fun z S => oDo (c z S) z fun d S' => match g d z with
  | some z' => .nx z' S'
  | none => .bad
/-- a, b = x, y -/
def sPar (i j : Nat) (a : CA) : CS := fun z S => oDo (a z S) z fun ds S' => match ds with
  | [x, y] => .nx ((z.set i (.d x)).set j (.d y)) S'
  | _ => .bad
/-- x = a new list, which is x's own from now on -/
def sSetL (i : Nat) (c : CE) : CS := fun z S => oDo (c z S) z fun d S' => match d with
  | .lst xs => .nx (z.set i (.l xs)) S'
  | _ => .bad
/-- x = a new list, which is the store's -/
def sSetP (i : Nat) (c : CE) : CS := fun z S => oDo (c z S) z fun d S' => match d with
  | .lst xs => .nx (z.set i (.d (.ptr S'.length))) (S' ++ [.lst xs])
  | _ => .bad
/-- an own list becomes a value that never changes -/
def sFrz (i : Nat) (c : CS) : CS := fun z S => match z[i]? with
  | some (.l xs) => c (z.set i (.d (.lst xs))) S
  | _ => .bad
def sAppend (i : Nat) (c : CE) : CS := fun z S => match z[i]? with
  | some (.l xs) => oDo (c z S) z fun d S' => if xs.length < 16777216 then .nx (z.set i (.l (xs ++ [d]))) S' else .bad
  | _ => .bad
def sExtend (i : Nat) (c : CE) : CS := fun z S => match z[i]? with
  | some (.l xs) => oDo (c z S) z fun d S' => match d with
    | .lst ys => if xs.length + ys.length ≤ 16777216 then .nx (z.set i (.l (xs ++ ys))) S' else .bad
    | _ => .bad
  | _ => .bad
/-- o.append(e), o in the store -/
def cAppendP (o c : CE) : CE := fun z S => (o z S).bind fun p S1 => match p with
  | .ptr j => match S1[j]? with
    | some (.lst _) => (c z S1).bind fun d S2 => match S2[j]? with
      | some (.lst xs) => if xs.length < 16777216 then .ok .non (S2.set j (.lst (xs ++ [d]))) else .bad
      | _ => .bad
    | _ => .bad
  | _ => .bad
/-- o[k] = v, o a list of the store -/
def sItem (o k v : CE) : CS := fun z S => oDo (v z S) z fun d S1 => oDo (o z S1) z fun p S2 => oDo (k z S2) z fun i S3 => match p, i with
  | .ptr j, .int i => match S3[j]? with
    | some (.lst xs) => match L2.ixN xs.length i with
      | some n => .nx z (S3.set j (.lst (xs.set n d)))
      | none => .bad
    | _ => .bad
  | _, _ => .bad
/-- x[k] = v, x a list of its own -/
def sItemL (i : Nat) (k v : CE) : CS := fun z S => match z[i]? with
  | some (.l xs) => oDo (v z S) z fun d S1 => oDo (k z S1) z fun n S2 => match n with
    | .int n => match L2.ixN xs.length n with
      | some m => .nx (z.set i (.l (xs.set m d))) S2
      | none => .bad
    | _ => .bad
  | _ => .bad
def putN {α : Type} (f : Str) (v : α) : List Str → List α → List Str × List α
  | n :: ns, x :: xs => if n = f then (n :: ns, v :: xs) else (n :: (putN f v ns xs).1, x :: (putN f v ns xs).2)
  | _, _ => ([f], [v])
/-- o.f = v, o an object of the store -/
def sField (C : Addr) (f : Str) (o v : CE) : CS := fun z S => oDo (v z S) z fun d S1 => oDo (o z S1) z fun p S2 => match p with
  | .ptr j => match S2[j]? with
    | some (.ins C' ns xs) => if C' = C ∧ ns.length < 1000 then .nx z (S2.set j (.ins C (putN f d ns xs).1 (putN f d ns xs).2)) else .bad
    | _ => .bad
  | _ => .bad
/-- for -/
def loop (g : Tg) (b : CS) : List D → Sl → Store → O
  | [], z, S => .nx z S
  | d :: ds, z, S => match g d z with
    | none => .bad
    | some z1 => match b z1 S with
      | .nx z2 S2 => loop g b ds z2 S2
      | .ct z2 S2 => loop g b ds z2 S2
      | .bk z2 S2 => .nx z2 S2
      | o => o
def sFor (it : CA) (g : Tg) (b : CS) : CS := fun z S => oDo (it z S) z fun ds S' => loop g b ds z S'
/-- while, at most n turns -/
def wloop (t : CT) (b : CS) : Nat → Sl → Store → O
  | 0, _, _ => .bad
  | n + 1, z, S => oDo (t z S) z fun c S1 => if c then match b z S1 with
      | .nx z2 S2 => wloop t b n z2 S2
      | .ct z2 S2 => wloop t b n z2 S2
      | .bk z2 S2 => .nx z2 S2
      | o => o
    else .nx z S1
def sWhile (n : Nat) (t : CT) (b : CS) : CS := wloop t b n
/-! ### what a for walks -/
def iSeq (c : CE) : CA := fun z S => (c z S).bind fun d S' => match d with
  | .tup xs => .ok xs S'
  | .lst xs => .ok xs S'
  | .scr ns => .ok (ns.map D.int) S'
  | _ => .bad
/-- the bounds of a range -/
def in62 (n : Int) : Bool := decide (n.natAbs.log2 < 62)
theorem in62_of {n : Int} (h : n.natAbs < 2 ^ 62) : in62 n = true := by
  unfold in62
  by_cases h0 : n.natAbs = 0
  · rw [h0]; decide +kernel
  · rw [decide_eq_true_eq]; exact (Nat.log2_lt h0).mpr h
theorem in62_iff {n : Int} (h : in62 n = true) : -(2 ^ 62) ≤ n ∧ n < 2 ^ 62 := by
  unfold in62 at h
  rw [decide_eq_true_eq] at h
  have e : (2 : Int) ^ 62 = 4611686018427387904 := by rfl
  have e2 : (2 : Nat) ^ 62 = 4611686018427387904 := by rfl
  rw [e]
  by_cases h0 : n.natAbs = 0
  · omega
  · have := (Nat.log2_lt h0).mp h
    rw [e2] at this
    omega
def iRange1 (c : CE) : CA := fun z S => (c z S).bind fun d S' => match d with
  | .int n => if in62 n then .ok ((List.range n.toNat).map fun (k : Nat) => D.int (0 + (k : Int))) S' else .bad
  | _ => .bad
def iRange2 (a b : CE) : CA := fun z S => (a z S).bind fun d S1 => (b z S1).bind fun e S2 => match d, e with
  | .int i, .int j => if in62 i && in62 j then .ok ((List.range (j - i).toNat).map fun (k : Nat) => D.int (i + (k : Int))) S2 else .bad
  | _, _ => .bad
def enumD (xs : List D) : List D := xs.zipIdx.map fun p => D.tup [.int (p.2 : Nat), p.1]
def iEnum (c : CE) : CA := fun z S => (c z S).bind fun d S' => match d with
  | .tup xs => .ok (enumD xs) S'
  | .lst xs => .ok (enumD xs) S'
  | _ => .bad
/-! ### comprehensions -/
/-- the comprehension's own names are wiped -/
def wipeD (z : Sl) : List Nat → Sl
  | [] => z
  | v :: vs => (wipeD z vs).set v .u
/-- a turn's value, if the test lets it: the exceptions do not leave -/
def lcGo (g : Tg) (t : CT) (e : CE) (z : Sl) : List D → Store → List D → R (List D)
  | [], S, acc => .ok acc S
  | d :: ds, S, acc => match g d z with
    | none => .bad
    | some z1 => match t z1 S with
      | .ok true S1 => match e z1 S1 with
        | .ok x S2 => if acc.length < 16777216 then lcGo g t e z ds S2 (acc ++ [x]) else .bad
        | _ => .bad
      | .ok false S1 => lcGo g t e z ds S1 acc
      | _ => .bad
def tYesC : CT := fun _ S => .ok true S
def cLc (it : CA) (g : Tg) (t : CT) (e : CE) (vs : List Nat) : CE := fun z S => (it z S).bind fun ds S1 => (lcGo g t e (wipeD z vs) ds S1 []).bind fun xs S2 => .ok (.lst xs) S2
/-- C.NAME, a constant of the class at C -/
def cVal (C : Addr) (v : D) (o : CE) : CE := fun z S => (o z S).bind fun d S1 => match d with
  | .ref a => if a = C then .ok v S1 else .bad
  | _ => .bad
/-- C.m(..), m a static method of the class at C -/
def cStat (C : Addr) (g : G) (o : CE) (a : CA) : CE := fun z S => (o z S).bind fun d S1 => match d with
  | .ref b => if b = C then (a z S1).bind g else .bad
  | _ => .bad
end CL
set_option Elab.async false
set_option linter.all false
set_option maxRecDepth 100000
/-! CL2: how plain data stand in the abstract heap; the readings of pieces; the first lemmas. -/
namespace CL
open PySem PySem.Spec PyProof.Rows L2
/-- the written part that the walk stands on -/
class TheK where
  K : PySem.W.Frag
variable [TheK]
/-- a list of ints of the written part -/
def KLst (a : Addr) (ns : List Int) : Prop := ∃ (o : Obj) (its : Array Value) (n : Nat), TheK.K.lookup a = some o ∧ o.cls = .type "list" ∧ o.dict = none ∧ o.data = .seq its n ∧ its.size ≤ sizeLine ∧ Vals (ns.map V.int) its.toList

mutual
/-- v stands for the datum: i: where the store's objects stand; B: the part of the heap that never changes -/
def Rp (I : List Addr) (B : Hp) (v : V) : D → Prop
  | .non => v = .non
  | .bl b => v = .bl b
  | .int i => v = .int i
  | .str s => v = .str s
  | .byt b => v = .byt b
  | .tup xs => ∃ a vs, v = .ref a ∧ B a = some (.tup vs) ∧ Rps I B vs xs
  | .lst xs => ∃ a vs, v = .ref a ∧ B a = some (.lst vs) ∧ Rps I B vs xs
  | .scr ns => ∃ a, v = .ref a ∧ (Rd B a (.lst (ns.map V.int)) ∨ KLst a ns)
  | .dct ks xs => ∃ a vs, v = .ref a ∧ B a = some (.dK (ks.zip vs)) ∧ ks.length = vs.length ∧ Rps I B vs xs
  | .obj C ns xs => ∃ a dx vs, v = .ref a ∧ B a = some (.ins C dx (ns.zip vs)) ∧ ns.length = vs.length ∧ Rps I B vs xs
  | .ptr i => ∃ a, I[i]? = some a ∧ v = .ref a
  | .ref a => v = .ref a
  | .ty n => v = .ty n
def Rps (I : List Addr) (B : Hp) : List V → List D → Prop
  | [], [] => True
  | v :: vs, x :: xs => Rp I B v x ∧ Rps I B vs xs
  | [], _ :: _ => False
  | _ :: _, [] => False
end
theorem Rps.len {I : List Addr} {B : Hp} : ∀ {vs : List V} {xs : List D}, Rps I B vs xs → vs.length = xs.length
  | [], [], _ => rfl
  | v :: vs, x :: xs, h => by
    have := Rps.len (vs := vs) (xs := xs) h.2
    simp [this]
  | [], _ :: _, h => h.elim
  | _ :: _, [], h => h.elim
theorem Rps.get {I : List Addr} {B : Hp} : ∀ {vs : List V} {xs : List D} {j : Nat} {x : D}, Rps I B vs xs → xs[j]? = some x → ∃ v, vs[j]? = some v ∧ Rp I B v x
  | [], [], j, x, _, e => by simp at e
  | v :: vs, y :: xs, 0, x, h, e => by
    simp at e; subst e
    exact ⟨v, rfl, h.1⟩
  | v :: vs, y :: xs, j + 1, x, h, e => by
    obtain ⟨u, h1, h2⟩ := Rps.get (j := j) h.2 (by simpa using e)
    exact ⟨u, by simpa using h1, h2⟩
  | [], _ :: _, _, _, h, _ => h.elim
  | _ :: _, [], _, _, h, _ => h.elim
theorem Rps.append {I : List Addr} {B : Hp} : ∀ {vs ws : List V} {xs ys : List D}, Rps I B vs xs → Rps I B ws ys → Rps I B (vs ++ ws) (xs ++ ys)
  | [], ws, [], ys, _, h => h
  | v :: vs, ws, x :: xs, ys, h, k => ⟨h.1, Rps.append h.2 k⟩
  | [], _, _ :: _, _, h, _ => h.elim
  | _ :: _, _, [], _, h, _ => h.elim
theorem Rps.take {I : List Addr} {B : Hp} : ∀ {vs : List V} {xs : List D} (n : Nat), Rps I B vs xs → Rps I B (vs.take n) (xs.take n)
  | [], [], n, _ => by simp [Rps]
  | v :: vs, x :: xs, 0, h => by simp [Rps]
  | v :: vs, x :: xs, n + 1, h => ⟨h.1, Rps.take n h.2⟩
  | [], _ :: _, _, h => h.elim
  | _ :: _, [], _, h => h.elim
theorem Rps.drop {I : List Addr} {B : Hp} : ∀ {vs : List V} {xs : List D} (n : Nat), Rps I B vs xs → Rps I B (vs.drop n) (xs.drop n)
  | [], [], n, _ => by simp [Rps]
  | v :: vs, x :: xs, 0, h => h
  | v :: vs, x :: xs, n + 1, h => Rps.drop n h.2
  | [], _ :: _, _, h => h.elim
  | _ :: _, [], _, h => h.elim
theorem Rps.set {I : List Addr} {B : Hp} {u : V} {y : D} (r : Rp I B u y) : ∀ {vs : List V} {xs : List D} (n : Nat), Rps I B vs xs → Rps I B (vs.set n u) (xs.set n y)
  | [], [], n, _ => by simp [Rps]
  | v :: vs, x :: xs, 0, h => ⟨r, h.2⟩
  | v :: vs, x :: xs, n + 1, h => ⟨h.1, Rps.set r n h.2⟩
  | [], _ :: _, _, h => h.elim
  | _ :: _, [], _, h => h.elim
theorem Rps.ints {I : List Addr} {B : Hp} : ∀ ns : List Int, Rps I B (ns.map V.int) (ns.map D.int)
  | [] => trivial
  | n :: ns => ⟨rfl, Rps.ints ns⟩

/-! ### growing -/
mutual
theorem Rp.mono {I J : List Addr} {B B' : Hp} (p : ∃ k, J = I ++ k) (e : ∀ a o, B a = some o → B' a = some o) : ∀ {v : V} (x : D), Rp I B v x → Rp J B' v x
  | v, .non, h => h
  | v, .bl _, h => h
  | v, .int _, h => h
  | v, .str _, h => h
  | v, .byt _, h => h
  | v, .tup xs, ⟨a, vs, h1, h2, h3⟩ => ⟨a, vs, h1, e _ _ h2, Rps.mono p e xs h3⟩
  | v, .lst xs, ⟨a, vs, h1, h2, h3⟩ => ⟨a, vs, h1, e _ _ h2, Rps.mono p e xs h3⟩
  | v, .scr ns, ⟨a, h1, h2⟩ => ⟨a, h1, h2.imp (fun h2 => h2.elim (fun z => .inl (e _ _ z)) fun ⟨o, z⟩ => .inr ⟨o, e _ _ z⟩) id⟩
  | v, .dct ks xs, ⟨a, vs, h1, h2, h3, h4⟩ => ⟨a, vs, h1, e _ _ h2, h3, Rps.mono p e xs h4⟩
  | v, .obj C ns xs, ⟨a, dx, vs, h1, h2, h3, h4⟩ => ⟨a, dx, vs, h1, e _ _ h2, h3, Rps.mono p e xs h4⟩
  | v, .ptr i, ⟨a, h1, h2⟩ => ⟨a, by
      obtain ⟨k, rfl⟩ := p
      rw [List.getElem?_append_left (List.getElem?_eq_some_iff.mp h1).1]
      exact h1, h2⟩
  | v, .ref _, h => h
  | v, .ty _, h => h
theorem Rps.mono {I J : List Addr} {B B' : Hp} (p : ∃ k, J = I ++ k) (e : ∀ a o, B a = some o → B' a = some o) : ∀ {vs : List V} (xs : List D), Rps I B vs xs → Rps J B' vs xs
  | [], [], _ => trivial
  | _ :: _, x :: xs, h => ⟨Rp.mono p e x h.1, Rps.mono p e xs h.2⟩
  | [], _ :: _, h => h.elim
  | _ :: _, [], h => h.elim
end

/-- an object of the store -/
def RpM (I : List Addr) (B : Hp) (o : HO) : MO → Prop
  | .lst xs => ∃ vs, o = .lst vs ∧ Rps I B vs xs
  | .dct ks xs => ∃ vs, o = .dK (ks.zip vs) ∧ ks.length = vs.length ∧ Rps I B vs xs
  | .ins C ns xs => ∃ dx vs, o = .ins C dx (ns.zip vs) ∧ ns.length = vs.length ∧ Rps I B vs xs
theorem RpM.mono {I J : List Addr} {B B' : Hp} {o : HO} (p : ∃ k, J = I ++ k) (e : ∀ a o, B a = some o → B' a = some o) : ∀ {m : MO}, RpM I B o m → RpM J B' o m
  | .lst xs, ⟨vs, h1, h2⟩ => ⟨vs, h1, h2.mono p e⟩
  | .dct ks xs, ⟨vs, h1, h2, h3⟩ => ⟨vs, h1, h2, h3.mono p e⟩
  | .ins C ns xs, ⟨dx, vs, h1, h2, h3⟩ => ⟨dx, vs, h1, h2, h3.mono p e⟩

/-- nothing stands there, or a table -/
def Fr (H : Hp) (a : Addr) : Prop := ∀ o, H a = some o → ∃ ps, o = HO.tbl ps
theorem Fr.of {H : Hp} {a : Addr} (h : H a = none) : Fr H a := fun o e => by rw [h] at e; cases e
theorem Fr.no {H : Hp} {a : Addr} {o : HO} (h : Fr H a) (e : H a = some o) (n : ∀ ps, o ≠ .tbl ps) : False := by
  obtain ⟨ps, q⟩ := h o e
  exact n ps q
theorem Fr.down {H : Hp} {a b : Addr} {u : HO} (h : Fr (upd H a u) b) (h0 : b = a → Fr H b) : Fr H b := fun o e => by
  by_cases q : b = a
  · exact h0 q o e
  · exact h o (by rw [upd_ne q]; exact e)
/-- from one state to a later one -/
structure Gr (I : List Addr) (B H : Hp) (J : List Addr) (B' H' : Hp) : Prop where
  pre : ∃ k, J = I ++ k ∧ ∀ a ∈ k, Fr H a
  ext : ∀ a o, B a = some o → B' a = some o
  new : ∀ a o, B' a = some o → B a = some o ∨ Fr H a
  keep : ∀ a o, H a = some o → a ∉ I → (∀ ps, o ≠ .tbl ps) → H' a = some o
  dom : ∀ a, Fr H' a → Fr H a
theorem Gr.refl (I : List Addr) (B H : Hp) : Gr I B H I B H := ⟨⟨[], by simp, by simp⟩, fun _ _ h => h, fun _ _ h => .inl h, fun _ _ h _ _ => h, fun _ h => h⟩
theorem Gr.sub {I J : List Addr} {B H B' H' : Hp} (g : Gr I B H J B' H') : ∃ k, J = I ++ k := let ⟨k, h, _⟩ := g.pre; ⟨k, h⟩
theorem Gr.trans {I J L : List Addr} {B H B' H' B2 H2 : Hp} (g : Gr I B H J B' H') (k : Gr J B' H' L B2 H2) : Gr I B H L B2 H2 := by
  obtain ⟨k1, rfl, f1⟩ := id g.pre
  obtain ⟨k2, rfl, f2⟩ := k.pre
  refine ⟨⟨k1 ++ k2, by simp, fun a ha => ?_⟩, fun a o h => k.ext a o (g.ext a o h), fun a o h => ?_, fun a o h n t => ?_, fun a h => g.dom a (k.dom a h)⟩
  · rcases List.mem_append.mp ha with h | h
    · exact f1 a h
    · exact g.dom a (f2 a h)
  · rcases k.new a o h with h | h
    · exact g.new a o h
    · exact .inr (g.dom a h)
  · refine k.keep a o (g.keep a o h n t) (fun hm => ?_) t
    rcases List.mem_append.mp hm with h' | h'
    · exact n h'
    · exact (f1 a h').no h t
theorem Rp.gr {I J : List Addr} {B H B' H' : Hp} {v : V} {x : D} (h : Rp I B v x) (g : Gr I B H J B' H') : Rp J B' v x := h.mono g.sub g.ext
theorem Rps.gr {I J : List Addr} {B H B' H' : Hp} {v : List V} {x : List D} (h : Rps I B v x) (g : Gr I B H J B' H') : Rps J B' v x := h.mono g.sub g.ext

/-- tables of code objects; code objects -/
abbrev Tl := List NdefX.NTab × List (Addr × Str)
def TbOk (L : Tl) (H : Hp) : Prop := NdefX.TabsN L.1 H ∧ ∀ p ∈ L.2, H p.1 = some (LamX.CodeO p.1 p.2)
theorem TbOk.ext {L : Tl} {H H' : Hp} (t : TbOk L H) (e : ∀ b o, H b = some o → H' b = some o) : TbOk L H' := ⟨t.1.ext e, fun p hp => e _ _ (t.2 p hp)⟩
theorem Gr.more {I J : List Addr} {B H B' H' H2 : Hp} (g : Gr I B H J B' H') (k : ∀ a o, H' a = some o → H2 a = some o) : Gr I B H J B' H2 where
  pre := g.pre
  ext := g.ext
  new := g.new
  keep := fun a o h n t => k a o (g.keep a o h n t)
  dom := fun a h => g.dom a fun o e => h o (k a o e)
/-- an object is laid down for good -/
theorem Gr.lay {I J : List Addr} {B H B' H' : Hp} {p : Addr} {o : HO} (g : Gr I B H J B' H') (h0 : Fr H p) (hb : B' p = none) : Gr I B H J (upd B' p o) H' where
  pre := g.pre
  ext := fun c u q => by
    have ne : c ≠ p := fun e => by
      subst e
      have := g.ext _ _ q
      rw [hb] at this; cases this
    rw [upd_ne ne]; exact g.ext c u q
  new := fun c u q => by
    by_cases e : c = p
    · exact .inr (e ▸ h0)
    · rw [upd_ne e] at q; exact g.new c u q
  keep := g.keep
  dom := g.dom
/-- what stays: the tables of code objects; the exception in hand -/
structure Pm where
  tabs : Tl
  xa : Option (Addr × Value × Option Addr)
  fn : Option (Addr × List Addr × Hp × Hp)
variable (L : Tl) (T : Pm)
/-- the store stands -/
structure Sto (I : List Addr) (B H : Hp) (S : Store) : Prop where
  len : I.length = S.length
  nd : I.Nodup
  dj : ∀ a ∈ I, B a = none
  sub : ∀ a o, B a = some o → H a = some o
  nt : ∀ a o, B a = some o → ∀ ps, o ≠ .tbl ps
  at_ : ∀ (i : Nat) (m : MO), S[i]? = some m → ∃ a o, I[i]? = some a ∧ H a = some o ∧ RpM I B o m
  tb : TbOk L H
def RpX (I : List Addr) (B : Hp) (c : Value) (dd : Option Addr) (e : Exn) : Prop := c = .ref e.cls ∧
  ((e.ns = [] ∧ dd = none) ∨ ∃ a vs, dd = some a ∧ B a = some (.xd (e.ns.zip vs)) ∧ e.ns.length = vs.length ∧ Rps I B vs e.xs)
theorem RpX.mono {I J : List Addr} {B B' : Hp} {c : Value} {d : Option Addr} {e : Exn} (p : ∃ k, J = I ++ k) (k : ∀ a o, B a = some o → B' a = some o) (h : RpX I B c d e) : RpX J B' c d e := ⟨h.1, h.2.elim .inl fun ⟨a, vs, h1, h2, h3, h4⟩ => .inr ⟨a, vs, h1, k _ _ h2, h3, Rps.mono p k e.xs h4⟩⟩
/-- an own object -/
def Own (H0 : Hp) (I : List Addr) (B : Hp) (a : Addr) : Prop := Fr H0 a ∧ B a = none ∧ a ∉ I
def SlotOk (T : Pm) (H0 : Hp) (I : List Addr) (B H : Hp) (o : Option V) : SV → Prop
  | .u => True
  | .d x => ∃ v, o = some v ∧ Rp I B v x
  | .l xs => ∃ a vs, o = some (.ref a) ∧ H a = some (.lst vs) ∧ Rps I B vs xs ∧ Own H0 I B a
  | .m ks xs => ∃ a vs, o = some (.ref a) ∧ H a = some (.dK (ks.zip vs)) ∧ ks.length = vs.length ∧ Rps I B vs xs ∧ Own H0 I B a
  | .f => ∃ a I1 B1 H1, T.fn = some (a, I1, B1, H1) ∧ o = some (.ref a) ∧ Gr I1 B1 H1 I B H ∧ ∀ b, Fr H0 b → Fr H1 b
  | .x e => ∃ a d, T.xa = some (a, .ref e.cls, d) ∧ o = some (.ref a) ∧ RpX I B (.ref e.cls) d e
def isOwn : SV → Bool
  | .l _ => true
  | .m _ _ => true
  | _ => false
structure Slt (H0 : Hp) (I : List Addr) (B H : Hp) (s : L2.St) (z : Sl) : Prop where
  len : s.length = z.length
  ok : ∀ (i : Nat) (o : Option V) (x : SV), s[i]? = some o → z[i]? = some x → SlotOk T H0 I B H o x
  ne : ∀ (i j : Nat) (a : Addr) (x y : SV), s[i]? = some (some (V.ref a)) → s[j]? = some (some (V.ref a)) → z[i]? = some x → z[j]? = some y → isOwn x = true → isOwn y = true → i = j
structure At (H0 : Hp) (I : List Addr) (B H : Hp) (s : L2.St) (z : Sl) (S : Store) : Prop where
  sl : Slt T H0 I B H s z
  st : Sto T.tabs I B H S
variable {L} {T}
theorem SlotOk.gr {H0 : Hp} {I J : List Addr} {B H B' H' : Hp} {o : Option V} {x : SV} (g : Gr I B H J B' H') (h : SlotOk T H0 I B H o x) : SlotOk T H0 J B' H' o x := by
  have own : ∀ {a : Addr} {u : HO}, H a = some u → Own H0 I B a → (∀ ps, u ≠ .tbl ps) → H' a = some u ∧ Own H0 J B' a := fun {a u} ha ⟨h1, h2, h3⟩ nt => by
    obtain ⟨k, e, f⟩ := g.pre
    refine ⟨g.keep a u ha h3 nt, h1, ?_, fun hm => ?_⟩
    · cases q : B' a with
      | none => rfl
      | some w =>
        rcases g.new a w q with z | z
        · rw [h2] at z; cases z
        · exact (z.no ha nt).elim
    · rw [e] at hm
      rcases List.mem_append.mp hm with z | z
      · exact h3 z
      · exact (f a z).no ha nt
  cases x with
  | u => trivial
  | d x => obtain ⟨v, e, r⟩ := h; exact ⟨v, e, r.gr g⟩
  | l xs =>
    obtain ⟨a, vs, e, ha, r, ow⟩ := h
    obtain ⟨q1, q2⟩ := own ha ow (fun ps z => by cases z)
    exact ⟨a, vs, e, q1, r.gr g, q2⟩
  | m ks xs =>
    obtain ⟨a, vs, e, ha, hl, r, ow⟩ := h
    obtain ⟨q1, q2⟩ := own ha ow (fun ps z => by cases z)
    exact ⟨a, vs, e, q1, hl, r.gr g, q2⟩
  | f =>
    obtain ⟨a, I1, B1, H1, h1, h2, h3, h4⟩ := h
    exact ⟨a, I1, B1, H1, h1, h2, h3.trans g, h4⟩
  | x e =>
    obtain ⟨a, d, h1, h2, h3⟩ := h
    exact ⟨a, d, h1, h2, h3.mono g.sub g.ext⟩
theorem Slt.gr {H0 : Hp} {I J : List Addr} {B H B' H' : Hp} {s : L2.St} {z : Sl} (g : Gr I B H J B' H') (h : Slt T H0 I B H s z) : Slt T H0 J B' H' s z :=
  ⟨h.len, fun i o x h1 h2 => (h.ok i o x h1 h2).gr g, h.ne⟩

/-! ### readings -/
variable (L) (T)
/-- what is wished of the end of a piece -/
def Fin {α β : Type} (rep : List Addr → Hp → β → α → Prop) (W : WX) (s : L2.St) (I : List Addr) (B H : Hp) (Q : β → Hp → Prop) : R α → Prop
  | .ok x S' => ∀ J B' H' v, Gr I B H J B' H' → Sto L J B' H' S' → rep J B' v x → Q v H'
  | .exc e S' => ∀ J B' H' c dd, Gr I B H J B' H' → Sto L J B' H' S' → RpX J B' c dd e → W c dd s H'
  | .bad => False
/-- the reading of a piece -/
def rd {α β : Type} (rep : List Addr → Hp → β → α → Prop) (W : WX) (c : C α) : L2.St → Hp → (β → Hp → Prop) → Prop := fun s H Q =>
  ∃ H0 I B z S, At T H0 I B H s z S ∧ Fin T.tabs rep W s I B H Q (c z S)
abbrev rB : List Addr → Hp → Bool → Bool → Prop := fun _ _ x y => x = y
abbrev rdE (W : WX) (c : CE) : TE := rd T Rp W c
abbrev rdT (W : WX) (c : CT) : TT := rd T rB W c
abbrev rdA (W : WX) (c : CA) : TA := rd T Rps W c
variable {L} {T}
section
variable {α β γ δ : Type} {rep : List Addr → Hp → β → α → Prop} {rep2 : List Addr → Hp → δ → γ → Prop} {W : WX} {s : L2.St} {I J : List Addr} {B H B' H' H0 : Hp} {Q : β → Hp → Prop} {z : Sl} {S S' : Store}
theorem Fin.gr {r : R α} (h : Fin L rep W s I B H Q r) (g : Gr I B H J B' H') : Fin L rep W s J B' H' Q r := by
  cases r with
  | ok x S' => exact fun J B' H' v g' => h J B' H' v (g.trans g')
  | exc e S' => exact fun J B' H' c dd g' => h J B' H' c dd (g.trans g')
  | bad => exact h
theorem At.gr (h : At T H0 I B H s z S) (g : Gr I B H J B' H') (st : Sto T.tabs J B' H' S') : At T H0 J B' H' s z S' := ⟨h.sl.gr g, st⟩
/-- a piece, and what is made of its end -/
theorem bind {ca : C α} {f : α → Store → R γ} {P : β → Hp → Prop} {Q : δ → Hp → Prop} (at_ : At T H0 I B H s z S) (h : Fin T.tabs rep2 W s I B H Q ((ca z S).bind f))
    (k : ∀ J B' H' S' v x, Gr I B H J B' H' → At T H0 J B' H' s z S' → rep J B' v x → Fin T.tabs rep2 W s J B' H' Q (f x S') → P v H') : rd T rep W ca s H P := by
  refine ⟨H0, I, B, z, S, at_, ?_⟩
  cases e : ca z S with
  | ok x S' =>
    rw [e] at h
    exact fun J B' H' v g st r => k J B' H' S' v x g (at_.gr g st) r (Fin.gr (r := f x S') h g)
  | exc x S' =>
    rw [e] at h
    exact h
  | bad =>
    rw [e] at h
    exact h
theorem Fin.here {x : α} {v : β} (h : Fin L rep W s I B H Q (.ok x S)) (st : Sto L I B H S) (r : rep I B v x) : Q v H := h I B H v (Gr.refl I B H) st r
/-- a new object that never changes -/
theorem gr_new {p : Addr} {o : HO} (hp : H p = none) (hb : ∀ a o, B a = some o → H a = some o) : Gr I B H I (upd B p o) (upd H p o) where
  pre := ⟨[], by simp, by simp⟩
  ext := fun a u h => by
    have : a ≠ p := fun e => by subst e; rw [hb _ _ h] at hp; cases hp
    rw [upd_ne this]; exact h
  new := fun a u h => by
    by_cases e : a = p
    · exact .inr (e ▸ Fr.of hp)
    · rw [upd_ne e] at h; exact .inl h
  keep := fun a u h _ _ => by
    have : a ≠ p := fun e => by subst e; rw [h] at hp; cases hp
    rw [upd_ne this]; exact h
  dom := fun a h => h.down fun q => by subst q; exact .of hp
theorem Sto.mono_H {H' : Hp} (st : Sto L I B H S) (k : ∀ a o, H a = some o → H' a = some o) : Sto L I B H' S :=
  ⟨st.len, st.nd, st.dj, fun a o h => k _ _ (st.sub a o h), st.nt, fun i m h => let ⟨a, o, h1, h2, h3⟩ := st.at_ i m h; ⟨a, o, h1, k _ _ h2, h3⟩, st.tb.ext k⟩
theorem keep_new {p : Addr} {o : HO} (hp : H p = none) : ∀ a u, H a = some u → upd H p o a = some u := fun a u h => by
  have : a ≠ p := fun e => by subst e; rw [h] at hp; cases hp
  rw [upd_ne this]; exact h
theorem Sto.new {p : Addr} {o : HO} (st : Sto L I B H S) (hp : H p = none) (nt : ∀ ps, o ≠ .tbl ps) : Sto L I (upd B p o) (upd H p o) S := by
  have hI : ∀ a ∈ I, a ≠ p := fun a ha e => by
    obtain ⟨i, hi⟩ := List.mem_iff_getElem?.mp ha
    have hl : i < S.length := by
      have := (List.getElem?_eq_some_iff.mp hi).1
      rw [st.len] at this; exact this
    obtain ⟨b, u, h1, h2, _⟩ := st.at_ i S[i] (List.getElem?_eq_getElem hl)
    rw [hi] at h1; cases h1
    rw [e, hp] at h2; cases h2
  have st' := st.mono_H (keep_new (o := o) hp)
  have hB : ∀ a u, B a = some u → upd B p o a = some u := fun a u h => by
    have : a ≠ p := fun e => by subst e; rw [st.sub _ _ h] at hp; cases hp
    rw [upd_ne this]; exact h
  refine ⟨st.len, st.nd, fun a ha => by rw [upd_ne (hI a ha)]; exact st.dj a ha, fun a u h => ?_, fun a u h => ?_, fun i m h => ?_, st'.tb⟩
  · by_cases e : a = p
    · subst e; rw [upd_same] at h ⊢; exact h
    · rw [upd_ne e] at h ⊢; exact st.sub a u h
  · by_cases e : a = p
    · subst e; rw [upd_same] at h; cases h; exact nt
    · rw [upd_ne e] at h; exact st.nt a u h
  · obtain ⟨a, u, h1, h2, h3⟩ := st'.at_ i m h
    exact ⟨a, u, h1, h2, h3.mono ⟨[], by simp⟩ hB⟩
theorem Fin.fresh {x : α} {v : β} {p : Addr} {o : HO} (h : Fin L rep W s I B H Q (.ok x S)) (st : Sto L I B H S) (hp : H p = none) (nt : ∀ ps, o ≠ .tbl ps) (r : rep I (upd B p o) v x) : Q v (upd H p o) :=
  h I _ _ v (gr_new hp st.sub) (st.new hp nt) r
theorem Rps.new {p : Addr} {o : HO} {vs : List V} {xs : List D} (r : Rps I B vs xs) (st : Sto L I B H S) (hp : H p = none) : Rps I (upd B p o) vs xs :=
  r.mono ⟨[], by simp⟩ (xs := xs) fun a u h => by
    have : a ≠ p := fun e => by subst e; rw [st.sub _ _ h] at hp; cases hp
    rw [upd_ne this]; exact h
end

/-! ### from a reading to a reading -/
theorem pe_imp {X : Cx} {e : Expr} {t t' : TE} (h : PE X e t) (k : ∀ s H Q, t' s H Q → t s H Q) : PE X e t' := ⟨fun pins s σ H Q I hq => h.run pins s σ H Q I (k _ _ _ hq)⟩
theorem pt_imp {X : Cx} {e : Expr} {t t' : TT} (h : PT X e t) (k : ∀ s H Q, t' s H Q → t s H Q) : PT X e t' := ⟨fun pins s σ H Q I hq => h.run pins s σ H Q I (k _ _ _ hq)⟩
theorem pw_imp {X : Cx} {e : Expr} {t t' : TT} (h : PW X e t) (k : ∀ s H Q, t' s H Q → t s H Q) : PW X e t' := ⟨fun w pins s σ H Q I hq => h.run w pins s σ H Q I (k _ _ _ hq)⟩
theorem pa_imp {X : Cx} {e : List Expr} {t t' : TA} (h : PA X e t) (k : ∀ s H Q, t' s H Q → t s H Q) : PA X e t' := ⟨fun pos pins s σ H Q I hq => h.run pos pins s σ H Q I (k _ _ _ hq)⟩
theorem ps_imp {X : Cx} {e : Stmt} {t t' : TS} (h : PS X e t) (k : ∀ D s H, t' D s H → t D s H) : PS X e t' := ⟨fun pins s σ H D I hq => h.run pins s σ H D I (k _ _ _ hq)⟩
theorem pss_imp {X : Cx} {e : List Stmt} {t t' : TS} (h : PSs X e t) (k : ∀ D s H, t' D s H → t D s H) : PSs X e t' := ⟨fun pins s σ H D I hq => h.run pins s σ H D I (k _ _ _ hq)⟩
end CL
set_option Elab.async false
set_option linter.all false
set_option maxRecDepth 100000
/-! CL3: the rules: expressions. -/
namespace CL
open PySem PySem.Spec PyProof.Rows L2
variable [TheK]
variable {L : Tl} {T : Pm} {X : Cx} {W : WX}

/-! ### names, constants -/
theorem Slt.get {H0 : Hp} {I : List Addr} {B H : Hp} {s : L2.St} {z : Sl} {i : Nat} {x : SV} (h : Slt T H0 I B H s z) (e : z[i]? = some x) : ∃ o, s[i]? = some o ∧ SlotOk T H0 I B H o x := by
  have hl : i < s.length := by rw [h.len]; exact (List.getElem?_eq_some_iff.mp e).1
  exact ⟨s[i], List.getElem?_eq_getElem hl, h.ok i _ x (List.getElem?_eq_getElem hl) e⟩
theorem e_var (i : Nat) {x : Str} {pos : Pos} (hN : X.N[i]? = some x := by rfl) (hv : Vis X.env.scope x := by first | exact Or.inl rfl | exact Or.inr (Or.inl rfl) | exact Or.inr (Or.inr rfl)) (hd : (x == ("__debug__" : Str)) = false := by decide)
    (hcd : (x == ("__classdict__" : Str)) = false := by decide) : PE X (.Name x pos) (rdE T W (cVar i)) := by
  refine pe_imp (pe_var hN hv hd hcd) ?_
  rintro s H Q ⟨H0, I, B, z, S, a, f⟩
  unfold cVar slotD at f
  split at f
  · rename_i x e
    obtain ⟨o, h1, v, h2, r⟩ := a.sl.get e
    exact ⟨v, by rw [h1, h2], f.here a.st r⟩
  · exact f.elim
theorem e_k {e : Expr} {v : V} {x : D} (h : PE X e (tC v)) (r : ∀ I B, Rp I B v x) : PE X e (rdE T W (cK x)) := by
  refine pe_imp h ?_
  rintro s H Q ⟨H0, I, B, z, S, a, f⟩
  exact Fin.here (x := x) (v := v) f a.st (r I B)
theorem e_int {i j pos} : PE X (.Constant (.int i) j pos) (rdE T W (cK (.int i))) := e_k pe_int fun _ _ => rfl
theorem e_bl {b j pos} : PE X (.Constant (.bool b) j pos) (rdE T W (cK (.bl b))) := e_k pe_bl fun _ _ => rfl
theorem e_non {j pos} : PE X (.Constant .none j pos) (rdE T W (cK .non)) := e_k pe_non fun _ _ => rfl
theorem e_str {x j pos} : PE X (.Constant (.str x) j pos) (rdE T W (cK (.str x))) := e_k pe_str fun _ _ => rfl
/-- a def or class of the module, as a value -/
theorem e_glob {x : Str} {a : Addr} {pos : Pos} (hg : Gl X x) (hm : X.mg x = some (.ref a)) (hd : (x == ("__debug__" : Str)) = false := by decide) : PE X (.Name x pos) (rdE T W (cK (.ref a))) := e_k (pe_glob (v := .ref a) hg hm rfl hd) fun _ _ => rfl
theorem e_globI {x : Str} {i : Int} {t : Tok} {pos : Pos} (hg : Gl X x) (hm : X.mg x = some (.int i t)) (hd : (x == ("__debug__" : Str)) = false := by decide) : PE X (.Name x pos) (rdE T W (cK (.int i))) := e_k (pe_glob (v := .int i) hg hm ⟨t, rfl⟩ hd) fun _ _ => rfl
theorem e_globS {x y : Str} {t : Tok} {pos : Pos} (hg : Gl X x) (hm : X.mg x = some (.str y t)) (hd : (x == ("__debug__" : Str)) = false := by decide) : PE X (.Name x pos) (rdE T W (cK (.str y))) := e_k (pe_glob (v := .str y) hg hm ⟨t, rfl⟩ hd) fun _ _ => rfl
theorem e_never {e : Expr} : PE X e (rdE T W cNo) := ⟨fun _ _ _ _ _ _ ⟨_, _, _, _, _, _, f⟩ => f.elim⟩

/-! ### operators -/
variable (L) in
/-- the operation on data is the operation on values -/
def Ok2 (r : R2) (f : D → D → Store → R D) : Prop := ∀ {W : WX} {s : L2.St} {I : List Addr} {B H : Hp} {Q : VK} {S : Store} {v u : V} {x y : D}, Sto L I B H S → Rp I B v x → Rp I B u y → Fin L Rp W s I B H Q (f x y S) → r v u H Q
variable (L) in
def Ok1 (r : V → Hp → VK → Prop) (f : D → Store → R D) : Prop := ∀ {W : WX} {s : L2.St} {I : List Addr} {B H : Hp} {Q : VK} {S : Store} {v : V} {x : D}, Sto L I B H S → Rp I B v x → Fin L Rp W s I B H Q (f x S) → r v H Q
variable (L) in
def OkA (r : List V → Hp → VK → Prop) (f : List D → Store → R D) : Prop := ∀ {W : WX} {s : L2.St} {I : List Addr} {B H : Hp} {Q : VK} {S : Store} {v : List V} {x : List D}, Sto L I B H S → Rps I B v x → Fin L Rp W s I B H Q (f x S) → r v H Q
section
variable {a b c : Expr} {ca cb cc : CE} {pos : Pos} {f g : D → D → Store → R D}
theorem two {r : R2} (hf : Ok2 T.tabs r f) {s : L2.St} {H : Hp} {Q : VK} (h : rdE T W (c2 f ca cb) s H Q) : tOp r (rdE T W ca) (rdE T W cb) s H Q := by
  obtain ⟨H0, I, B, z, S, a, h⟩ := h
  refine bind a h fun J B' H' S' v x g a1 r1 f1 => ?_
  refine bind (rep := Rp) (Q := Q) (rep2 := Rp) a1 f1 fun J2 B2 H2 S2 u y g2 a2 r2 f2 => ?_
  exact hf a2.st (r1.gr g2) r2 f2
theorem e_op {op : Operator} {r : R2} (ho : OpR X (binaryOp op) r) (hf : Ok2 T.tabs r f) (ha : PE X a (rdE T W ca)) (hb : PE X b (rdE T W cb)) : PE X (.BinOp a op b pos) (rdE T W (c2 f ca cb)) :=
  pe_imp (pe_op ho ha hb) fun _ _ _ h => two hf h
theorem e_un {op : UnaryOp} {r : V → Hp → VK → Prop} {f : D → Store → R D} (ho : UnR X (unaryOp op) r) (hf : Ok1 T.tabs r f) (ha : PE X a (rdE T W ca)) : PE X (.UnaryOp op a pos) (rdE T W (c1 f ca)) := by
  refine pe_imp (pe_un ho ha) ?_
  rintro s H Q ⟨H0, I, B, z, S, a, h⟩
  exact bind a h fun J B' H' S' v x g a1 r1 f1 => hf a1.st r1 f1
theorem e_cmp {op : CmpOp} {r : R2} (ho : OpR X (compareOp op) r) (hf : Ok2 T.tabs r f) (ha : PE X a (rdE T W ca)) (hb : PE X b (rdE T W cb)) (hm : behindInMarks op b = false) : PE X (.Compare a [op] [b] pos) (rdE T W (c2 f ca cb)) :=
  pe_imp (pe_cmpR ho ha hb hm) fun _ _ _ h => two hf h
/-- a truth value as a test -/
theorem toB {c : CE} {s : L2.St} {H : Hp} {Q : Bool → Hp → Prop} (h : rdT T W (tB c) s H Q) : rdE T W c s H fun x H' => ∃ k, x = .bl k ∧ Q k H' := by
  obtain ⟨H0, I, B, z, S, a, h⟩ := h
  refine bind (rep2 := rB) (Q := Q) a h fun J B' H' S' v x g a1 r1 f1 => ?_
  cases x with
  | bl k => exact ⟨k, r1, f1.here a1.st rfl⟩
  | _ => exact f1.elim
theorem t_cmp {op : CmpOp} {r : R2} (ho : OpR X (compareOp op) r) (hf : Ok2 T.tabs r f) (ha : PE X a (rdE T W ca)) (hb : PE X b (rdE T W cb)) (hm : behindInMarks op b = false) : PT X (.Compare a [op] [b] pos) (rdT T W (tB (c2 f ca cb))) :=
  pt_imp (pt_cmpR ho ha hb hm) fun _ _ _ h => two hf (toB h)
theorem chain {r r' : R2} (hf : Ok2 T.tabs r f) (hg : Ok2 T.tabs r' g) {s : L2.St} {H : Hp} {Q : VK} (h : rdE T W (cChain f g ca cb cc) s H Q) : tChain r r' (rdE T W ca) (rdE T W cb) (rdE T W cc) s H Q := by
  obtain ⟨H0, I, B, z, S, a, h⟩ := h
  refine bind a h fun J B' H' S' v x g1 a1 r1 f1 => ?_
  refine bind (rep := Rp) (Q := Q) (rep2 := Rp) a1 f1 fun J2 B2 H2 S2 u y g2 a2 r2 f2 => ?_
  refine hf (W := W) (s := s) (S := S2) a2.st (r1.gr g2) r2 ?_
  cases e : f x y S2 with
  | ok k S3 =>
    rw [e] at f2
    intro J3 B3 H3 k' g3 st3 rk
    cases k with
    | bl k =>
      cases rk
      refine ⟨k, rfl, ?_⟩
      have f3 := Fin.gr f2 g3
      cases k with
      | true =>
        rw [if_pos rfl]
        have a3 := a2.gr g3 st3
        exact bind (rep := Rp) (Q := Q) (rep2 := Rp) a3 f3 fun J4 B4 H4 S4 w y' g4 a4 r4 f4 => hg a4.st ((r2.gr g3).gr g4) r4 f4
      | false =>
        rw [if_neg Bool.false_ne_true]
        exact Fin.here f3 st3 rfl
    | _ => exact f2.elim
  | exc x S3 =>
    rw [e] at f2
    exact f2
  | bad =>
    rw [e] at f2
    exact f2
theorem e_chain {op op' : CmpOp} {r r' : R2} (ho : OpR X (compareOp op) r) (ho' : OpR X (compareOp op') r') (hf : Ok2 T.tabs r f) (hg : Ok2 T.tabs r' g) (ha : PE X a (rdE T W ca)) (hb : PE X b (rdE T W cb)) (hc : PE X c (rdE T W cc))
    (hm : lastMarks [op, op'] [b, c] = false := by with_unfolding_all rfl) : PE X (.Compare a [op, op'] [b, c] pos) (rdE T W (cChain f g ca cb cc)) :=
  pe_imp (pe_chain ho ho' ha hb hc hm) fun _ _ _ h => chain hf hg h
theorem t_chain {op op' : CmpOp} {r r' : R2} (ho : OpR X (compareOp op) r) (ho' : OpR X (compareOp op') r') (hf : Ok2 T.tabs r f) (hg : Ok2 T.tabs r' g) (ha : PE X a (rdE T W ca)) (hb : PE X b (rdE T W cb)) (hc : PE X c (rdE T W cc))
    (hm : lastMarks [op, op'] [b, c] = false := by with_unfolding_all rfl) : PT X (.Compare a [op, op'] [b, c] pos) (rdT T W (tB (cChain f g ca cb cc))) :=
  pt_imp (pt_chain ho ho' ha hb hc hm) fun _ _ _ h => chain hf hg (toB h)
theorem t_val {e : Expr} {ce : CE} (h : PE X e (rdE T W ce)) (he : ∀ whole, isTrue e X.env whole = (do let v ← whole; standAt e.pos; holding [v] (truthy v)) := by intro _; rfl) : PT X e (rdT T W (tB ce)) :=
  pt_imp (pt_val h he) fun _ _ _ h => toB h

/-! ### and, or, not, if -/
variable {t u : CT} {rest : List Expr}
theorem t_not (ha : PT X a (rdT T W t)) : PT X (.UnaryOp .Not a pos) (rdT T W (tNot t)) := by
  refine pt_imp (L2.pt_not ha) ?_
  rintro s H Q ⟨H0, I, B, z, S, a, h⟩
  refine bind (rep2 := rB) (Q := Q) a h fun J B' H' S' v x g a1 r1 f1 => ?_
  cases r1
  exact f1.here a1.st rfl
theorem w_and1 (ha : PT X a (rdT T W t)) : PW X (.BoolOp .And [a] pos) (rdT T W t) := pw_and1 ha
theorem w_or1 (ha : PT X a (rdT T W t)) : PW X (.BoolOp .Or [a] pos) (rdT T W t) := pw_or1 ha
theorem w_and (ha : PT X a (rdT T W t)) (hb : PW X (.BoolOp .And (b :: rest) pos) (rdT T W u)) : PW X (.BoolOp .And (a :: b :: rest) pos) (rdT T W (CL.tAnd t u)) := by
  refine pw_imp (pw_and ha hb) ?_
  rintro s H Q ⟨H0, I, B, z, S, a, h⟩
  refine bind (rep2 := rB) (Q := Q) a h fun J B' H' S' v x g a1 r1 f1 => ?_
  cases r1
  cases v with
  | true => exact ⟨H0, J, B', z, S', a1, f1⟩
  | false => exact Fin.here f1 a1.st rfl
theorem w_or (ha : PT X a (rdT T W t)) (hb : PW X (.BoolOp .Or (b :: rest) pos) (rdT T W u)) : PW X (.BoolOp .Or (a :: b :: rest) pos) (rdT T W (CL.tOr t u)) := by
  refine pw_imp (pw_or ha hb) ?_
  rintro s H Q ⟨H0, I, B, z, S, a, h⟩
  refine bind (rep2 := rB) (Q := Q) a h fun J B' H' S' v x g a1 r1 f1 => ?_
  cases r1
  cases v with
  | false => exact ⟨H0, J, B', z, S', a1, f1⟩
  | true => exact Fin.here f1 a1.st rfl
theorem t_w (h : PW X a (rdT T W t)) : PT X a (rdT T W t) := h.pt
theorem e_if (hc : PT X c (rdT T W t)) (ha : PE X a (rdE T W ca)) (hb : PE X b (rdE T W cb)) : PE X (.IfExp c a b pos) (rdE T W (CL.cIf t ca cb)) := by
  refine pe_imp (pe_ifExp hc ha hb) ?_
  rintro s H Q ⟨H0, I, B, z, S, a, h⟩
  refine bind (rep2 := Rp) (Q := Q) a h fun J B' H' S' v x g a1 r1 f1 => ?_
  cases r1
  cases v with
  | true => exact ⟨H0, J, B', z, S', a1, f1⟩
  | false => exact ⟨H0, J, B', z, S', a1, f1⟩
theorem e_one {op : BoolOp} (h : PE X a (rdE T W ca)) : PE X (.BoolOp op [a] pos) (rdE T W ca) := pe_one h
theorem e_and (ha : PE X a (rdE T W ca)) (hb : PE X (.BoolOp .And (b :: rest) pos) (rdE T W cb)) : PE X (.BoolOp .And (a :: b :: rest) pos) (rdE T W (cAnd ca cb)) := by
  refine pe_imp (pe_and ha hb) ?_
  rintro s H Q ⟨H0, I, B, z, S, a, h⟩
  refine bind (rep2 := Rp) (Q := Q) a h fun J B' H' S' v x g a1 r1 f1 => ?_
  cases x with
  | bl k =>
    refine ⟨k, r1, ?_⟩
    cases k with
    | true => exact ⟨H0, J, B', z, S', a1, f1⟩
    | false => exact Fin.here f1 a1.st rfl
  | _ => exact f1.elim
theorem e_or (ha : PE X a (rdE T W ca)) (hb : PE X (.BoolOp .Or (b :: rest) pos) (rdE T W cb)) : PE X (.BoolOp .Or (a :: b :: rest) pos) (rdE T W (cOr ca cb)) := by
  refine pe_imp (pe_or ha hb) ?_
  rintro s H Q ⟨H0, I, B, z, S, a, h⟩
  refine bind (rep2 := Rp) (Q := Q) a h fun J B' H' S' v x g a1 r1 f1 => ?_
  cases x with
  | bl k =>
    refine ⟨k, r1, ?_⟩
    cases k with
    | false => exact ⟨H0, J, B', z, S', a1, f1⟩
    | true => exact Fin.here f1 a1.st rfl
  | _ => exact f1.elim
theorem e_not (ha : PE X a (rdE T W ca)) : PE X (.UnaryOp .Not a pos) (rdE T W (cNot ca)) := by
  refine pe_imp (pe_not ha) ?_
  rintro s H Q ⟨H0, I, B, z, S, a, h⟩
  refine bind (rep2 := Rp) (Q := Q) a h fun J B' H' S' v x g a1 r1 f1 => ?_
  cases x with
  | bl k => exact ⟨k, r1, f1.here a1.st rfl⟩
  | _ => exact f1.elim

/-! ### arguments, displays -/
variable {es : List Expr} {cs : CA}
theorem a_nil : PA X [] (rdA T W aNil) := by
  refine pa_imp pa_nil ?_
  rintro s H Q ⟨H0, I, B, z, S, a, h⟩
  exact Fin.here (x := ([] : List D)) (v := ([] : List V)) h a.st trivial
theorem a_cons (ha : PE X a (rdE T W ca)) (hr : PA X es (rdA T W cs)) (hs : starEach (a :: es) X.env = (false, eval a X.env) :: starEach es X.env := by rfl) : PA X (a :: es) (rdA T W (aCons ca cs)) := by
  refine pa_imp (pa_cons ha hr hs) ?_
  rintro s H Q ⟨H0, I, B, z, S, a, h⟩
  refine bind (rep2 := Rps) (Q := Q) a h fun J B' H' S' v x g a1 r1 f1 => ?_
  refine bind (rep := Rps) (rep2 := Rps) (Q := Q) a1 f1 fun J2 B2 H2 S2 vs xs g2 a2 r2 f2 => ?_
  exact Fin.here (v := v :: vs) f2 a2.st ⟨r1.gr g2, r2⟩
end
end CL
set_option Elab.async false
set_option linter.all false
set_option maxRecDepth 100000
/-! CL4: operations on values. -/
namespace CL
open PySem PySem.Spec PyProof.Rows L2
variable [TheK]
variable {L : Tl} {T : Pm} {X : Cx} {W : WX}

theorem line_le {n : Nat} (h : n ≤ 16777216) : n ≤ sizeLine := by rw [sizeLine_eq]; exact h
theorem line_lt {n : Nat} (h : n < 16777216) : n < sizeLine := by rw [sizeLine_eq]; exact h
section
variable {s : L2.St} {I : List Addr} {B H : Hp} {Q : VK} {S : Store} {v u : V} {x y : D} {K : PySem.W.Frag}
theorem Sto.rdL (st : Sto L I B H S) {a : Addr} {o : HO} (h : Rd B a o) : Rd H a o := h.elim (fun z => .inl (st.sub _ _ z)) fun ⟨o, z⟩ => .inr ⟨o, st.sub _ _ z⟩
theorem Rp.tup (st : Sto L I B H S) {xs : List D} (r : Rp I B v (.tup xs)) : ∃ a vs, v = .ref a ∧ H a = some (.tup vs) ∧ B a = some (.tup vs) ∧ Rps I B vs xs :=
  let ⟨a, vs, h1, h2, h3⟩ := r; ⟨a, vs, h1, st.sub _ _ h2, h2, h3⟩
theorem Rp.lst (st : Sto L I B H S) {xs : List D} (r : Rp I B v (.lst xs)) : ∃ a vs, v = .ref a ∧ H a = some (.lst vs) ∧ B a = some (.lst vs) ∧ Rps I B vs xs :=
  let ⟨a, vs, h1, h2, h3⟩ := r; ⟨a, vs, h1, st.sub _ _ h2, h2, h3⟩
/-- what stands behind a pointer -/
theorem Rp.ptr (st : Sto L I B H S) {i : Nat} {m : MO} (r : Rp I B v (.ptr i)) (e : S[i]? = some m) : ∃ a o, v = .ref a ∧ I[i]? = some a ∧ H a = some o ∧ RpM I B o m := by
  obtain ⟨a, h1, h2⟩ := r
  obtain ⟨b, o, h3, h4, h5⟩ := st.at_ i m e
  rw [h1] at h3; cases h3
  exact ⟨a, o, h2, h1, h4, h5⟩
theorem Sto.scr (st : Sto L I B H S) {a : Addr} {ns : List Int} (h : Rd B a (.lst (ns.map V.int)) ∨ KLst a ns) : SqL TheK.K H a (ns.map V.int) := h.imp st.rdL id
theorem items (hK : K = TheK.K) (st : Sto L I B H S) {xs : List D} (r : Rp I B v x) (e : itemsOf S x = some xs) : ∃ a vs, v = .ref a ∧ (SqL K H a vs ∨ SqT K H a vs) ∧ Rps I B vs xs := by
  subst hK
  unfold itemsOf at e
  split at e
  · cases e
    obtain ⟨a, vs, h1, h2, _, h3⟩ := Rp.tup st r
    exact ⟨a, vs, h1, .inr (SqT.of h2), h3⟩
  · cases e
    obtain ⟨a, vs, h1, h2, _, h3⟩ := Rp.lst st r
    exact ⟨a, vs, h1, .inl (SqL.of h2), h3⟩
  · cases e
    obtain ⟨a, h1, h2⟩ := r
    exact ⟨a, _, h1, .inl (st.scr h2), Rps.ints _⟩
  · rename_i i
    split at e
    · rename_i ys e2
      cases e
      obtain ⟨a, o, h1, _, h2, vs, h3, h4⟩ := Rp.ptr st r e2
      subst h3
      exact ⟨a, vs, h1, .inl (SqL.of h2), h4⟩
    · cases e
  · cases e
theorem Rps.nil_iff {vs : List V} {xs : List D} (h : Rps I B vs xs) : vs = [] ↔ xs = [] := by
  have := h.len
  cases vs <;> cases xs <;> simp_all
theorem Fin.newT {W : WX} {xs : List D} {vs : List V} {p : Addr} (f : Fin L Rp W s I B H Q (.ok (.tup xs) S)) (st : Sto L I B H S) (r : Rps I B vs xs) (hp : H p = none) : Q (.ref p) (upd H p (.tup vs)) :=
  f.fresh st hp (fun _ z => by cases z) ⟨p, vs, rfl, upd_same, r.new st hp⟩
theorem Fin.newL {W : WX} {xs : List D} {vs : List V} {p : Addr} (f : Fin L Rp W s I B H Q (.ok (.lst xs) S)) (st : Sto L I B H S) (r : Rps I B vs xs) (hp : H p = none) : Q (.ref p) (upd H p (.lst vs)) :=
  f.fresh st hp (fun _ z => by cases z) ⟨p, vs, rfl, upd_same, r.new st hp⟩
theorem Rps.rep {vs : List V} {xs : List D} (h : Rps I B vs xs) : ∀ k : Nat, Rps I B (List.replicate k vs).flatten (List.replicate k xs).flatten
  | 0 => by simp [Rps]
  | k + 1 => by
    rw [List.replicate_succ, List.replicate_succ, List.flatten_cons, List.flatten_cons]
    exact h.append (Rps.rep h k)
end

/-! ### numbers, +, * -/
abbrev rAddA (K : PySem.W.Frag) : R2 := fun x y H Q => (rI0 fun i j => .int (i + j)) x y H Q ∨ (∃ i j, x = .str i ∧ y = .str j ∧ i.length + j.length ≤ sizeLine ∧ Q (.str (i ++ j)) H) ∨ rCatA K x y H Q ∨ rCat x y H Q
theorem op_addA : OpR X (binaryOp .Add) (rAddA X.K) := op_add.or (op_add_str.or (op_catA.or op_cat))
theorem k_add {K : PySem.W.Frag} : Ok2 L (rAddA K) oAdd := by
  intro W s I B H Q S v u x y st rx ry f
  unfold oAdd at f
  split at f
  · cases rx; cases ry
    exact .inl ⟨_, _, rfl, rfl, f.here st rfl⟩
  · cases rx; cases ry
    split at f
    · rename_i h
      exact .inr (.inl ⟨_, _, rfl, rfl, line_le h, f.here st rfl⟩)
    · exact f.elim
  · split at f
    · rename_i h
      obtain ⟨a, vs, rfl, h1, b1, r1⟩ := Rp.tup st rx
      obtain ⟨b, ws, rfl, h2, b2, r2⟩ := Rp.tup st ry
      refine .inr (.inr (.inl ⟨a, b, vs, ws, rfl, rfl, SqT.of h1, SqT.of h2, by rw [r1.len, r2.len]; exact line_le h, fun e => ?_, fun n e => ?_, fun n1 n2 p hp => f.newT st (r1.append r2) hp⟩))
      · have := r1.nil_iff.mp e
        subst this
        exact f.here st ⟨b, ws, rfl, b2, r2⟩
      · have := r2.nil_iff.mp e
        subst this
        rw [List.append_nil] at f
        exact f.here st ⟨a, vs, rfl, b1, r1⟩
    · exact f.elim
  · split at f
    · rename_i h
      obtain ⟨a, vs, rfl, h1, b1, r1⟩ := Rp.lst st rx
      obtain ⟨b, ws, rfl, h2, b2, r2⟩ := Rp.lst st ry
      exact .inr (.inr (.inr ⟨a, b, vs, ws, rfl, rfl, h1, h2, by rw [r1.len, r2.len]; exact line_le h, fun p hp => f.newL st (r1.append r2) hp⟩))
    · exact f.elim
  · split at f
    · rename_i e
      split at f
      · rename_i h
        obtain ⟨a, o, rfl, _, h1, vs, rfl, r1⟩ := Rp.ptr st rx e
        obtain ⟨b, ws, rfl, h2, b2, r2⟩ := Rp.lst st ry
        exact .inr (.inr (.inr ⟨a, b, vs, ws, rfl, rfl, h1, h2, by rw [r1.len, r2.len]; exact line_le h, fun p hp => f.newL st (r1.append r2) hp⟩))
      · exact f.elim
    · exact f.elim
  · exact f.elim
theorem k_sub : Ok2 L (rI0 fun i j => .int (i - j)) oSub := by
  intro W s I B H Q S v u x y st rx ry f
  unfold oSub at f
  split at f
  · cases rx; cases ry
    exact ⟨_, _, rfl, rfl, f.here st rfl⟩
  · exact f.elim
abbrev rMulA (K : PySem.W.Frag) : R2 := fun x y H Q => (rI CMul fun i j => .int (i * j)) x y H Q ∨ rRepT K x y H Q ∨ rRep x y H Q
theorem op_mulA : OpR X (binaryOp .Mult) (rMulA X.K) := op_mul.or (op_repT.or op_rep)
theorem k_mul {K : PySem.W.Frag} : Ok2 L (rMulA K) oMul := by
  intro W s I B H Q S v u x y st rx ry f
  unfold oMul at f
  split at f
  · cases rx; cases ry
    split at f
    · rename_i h
      refine .inl ⟨_, _, rfl, rfl, ?_, f.here st rfl⟩
      simp only [smallI, Bool.or_eq_true, Bool.and_eq_true, decide_eq_true_eq] at h
      exact h
    · exact f.elim
  · split at f
    · rename_i h
      obtain ⟨h0, h1, h2, h3⟩ := h
      obtain ⟨a, vs, rfl, ha, b1, r1⟩ := Rp.tup st rx
      cases ry
      exact .inr (.inl ⟨a, _, vs, rfl, rfl, SqT.of ha, fun e => h0 (r1.nil_iff.mp e), h1, h2, by rw [r1.len]; exact h3, fun p hp => f.newT st (r1.rep _) hp⟩)
    · exact f.elim
  · split at f
    · rename_i h
      obtain ⟨h0, h1, h2⟩ := h
      obtain ⟨a, vs, rfl, ha, b1, r1⟩ := Rp.lst st rx
      cases ry
      exact .inr (.inr ⟨a, _, vs, rfl, rfl, ha, h0, h1, by rw [r1.len]; exact line_le h2, fun p hp => f.newL st (r1.rep _) hp⟩)
    · exact f.elim
  · exact f.elim
theorem k_mod : Ok2 L (rI (fun _ j => 0 < j) fun i j => .int (i % j)) oMod := by
  intro W s I B H Q S v u x y st rx ry f
  unfold oMod at f
  split at f
  · cases rx; cases ry
    split at f
    · rename_i h
      exact ⟨_, _, rfl, rfl, h, f.here st rfl⟩
    · exact f.elim
  · exact f.elim
theorem k_div : Ok2 L (rI CDivW fun i j => .int (i / j)) oDiv := by
  intro W s I B H Q S v u x y st rx ry f
  unfold oDiv at f
  split at f
  · cases rx; cases ry
    split at f
    · rename_i h
      exact ⟨_, _, rfl, rfl, h, f.here st rfl⟩
    · exact f.elim
  · exact f.elim
theorem k_pow : Ok2 L (rI CPow fun i j => .int (i ^ j.toNat)) oPow := by
  intro W s I B H Q S v u x y st rx ry f
  unfold oPow at f
  split at f
  · cases rx; cases ry
    split at f
    · rename_i h
      exact ⟨_, _, rfl, rfl, h, f.here st rfl⟩
    · exact f.elim
  · exact f.elim
theorem k_neg : Ok1 L (rU fun i => .int (-i)) oNeg := by
  intro W s I B H Q S v x st rx f
  unfold oNeg at f
  split at f
  · cases rx
    exact ⟨_, rfl, f.here st rfl⟩
  · exact f.elim
theorem k_cmp {p : Int → Int → Bool} : Ok2 L (rI0 fun i j => .bl (p i j)) (oCmp p) := by
  intro W s I B H Q S v u x y st rx ry f
  unfold oCmp at f
  split at f
  · cases rx; cases ry
    exact ⟨_, _, rfl, rfl, f.here st rfl⟩
  · exact f.elim
theorem k_lt : Ok2 L (rI0 fun i j => .bl (decide (i < j))) oLt := k_cmp
theorem k_le : Ok2 L (rI0 fun i j => .bl (decide (i ≤ j))) oLe := k_cmp
theorem k_gt : Ok2 L (rI0 fun i j => .bl (decide (j < i))) oGt := k_cmp
theorem k_ge : Ok2 L (rI0 fun i j => .bl (decide (j ≤ i))) oGe := k_cmp
theorem isNon_iff {I : List Addr} {B : Hp} {v : V} {x : D} (r : Rp I B v x) : decide (v = .non) = isNon x := by
  cases x with
  | non => cases r; rfl
  | bl _ => cases r; rfl
  | int _ => cases r; rfl
  | str _ => cases r; rfl
  | byt _ => cases r; rfl
  | tup _ => obtain ⟨a, vs, rfl, _⟩ := r; rfl
  | lst _ => obtain ⟨a, vs, rfl, _⟩ := r; rfl
  | scr _ => obtain ⟨a, rfl, _⟩ := r; rfl
  | dct _ _ => obtain ⟨a, vs, rfl, _⟩ := r; rfl
  | obj _ _ _ => obtain ⟨a, dx, vs, rfl, _⟩ := r; rfl
  | ptr _ => obtain ⟨a, _, rfl⟩ := r; rfl
  | ref _ => cases r; rfl
  | ty _ => cases r; rfl
theorem k_isN : Ok2 L (fun x y H Q => y = .non ∧ Q (.bl (decide (x = .non))) H) xIsN := by
  intro W s I B H Q S v u x y st rx ry f
  cases y with
  | non => exact ⟨ry, Fin.here f st (by rw [isNon_iff rx]; rfl)⟩
  | _ => exact f.elim
theorem k_notN : Ok2 L (fun x y H Q => y = .non ∧ Q (.bl (!decide (x = .non))) H) xNotN := by
  intro W s I B H Q S v u x y st rx ry f
  cases y with
  | non => exact ⟨ry, Fin.here f st (by rw [isNon_iff rx]; rfl)⟩
  | _ => exact f.elim

/-! ### equality of data -/
section
variable {I : List Addr} {B H : Hp} {S : Store} {K : PySem.W.Frag}
mutual
theorem dp_of (st : Sto L I B H S) : ∀ {v : V} (x : D) {d : PyData}, Rp I B v x → toPy x = some d → Dp K H v d
  | v, .non, d, r, e => by cases r; cases e; exact .non
  | v, .bl b, d, r, e => by cases r; cases e; exact .bl b
  | v, .int b, d, r, e => by cases r; cases e; exact .int b
  | v, .str b, d, r, e => by cases r; cases e; exact .str b
  | v, .tup xs, d, r, e => by
    obtain ⟨a, vs, rfl, h, _, r'⟩ := Rp.tup st r
    unfold toPy at e
    cases q : toPys xs with
    | none => rw [q] at e; cases e
    | some ds =>
      rw [q] at e; cases e
      exact .tup (SqT.of h) (dps_of st xs r' q)
  | v, .lst xs, d, r, e => by
    obtain ⟨a, vs, rfl, h, _, r'⟩ := Rp.lst st r
    unfold toPy at e
    cases q : toPys xs with
    | none => rw [q] at e; cases e
    | some ds =>
      rw [q] at e; cases e
      exact .lst (SqL.of h) (dps_of st xs r' q)
  | v, .byt b, d, r, e => by cases e
  | v, .scr b, d, r, e => by cases e
  | v, .dct _ _, d, r, e => by cases e
  | v, .obj _ _ _, d, r, e => by cases e
  | v, .ptr _, d, r, e => by cases e
  | v, .ref _, d, r, e => by cases e
  | v, .ty _, d, r, e => by cases e
theorem dps_of (st : Sto L I B H S) : ∀ {vs : List V} (xs : List D) {ds : List PyData}, Rps I B vs xs → toPys xs = some ds → DpAll K H vs ds
  | [], [], ds, r, e => by
    unfold toPys at e; cases e; exact .nil
  | v :: vs, x :: xs, ds, r, e => by
    unfold toPys at e
    cases q : toPy x with
    | none => rw [q] at e; cases e
    | some d =>
      cases q2 : toPys xs with
      | none => rw [q, q2] at e; cases e
      | some ds' =>
        rw [q, q2] at e; cases e
        exact .cons (dp_of st x r.1 q) (dps_of st xs r.2 q2)
  | [], _ :: _, _, r, _ => r.elim
  | _ :: _, [], _, r, _ => r.elim
end
theorem dp_look (st : Sto L I B H S) {v : V} {x : D} {d : PyData} (r : Rp I B v x) (e : toPy (look S x) = some d) : Dp K H v d := by
  unfold look at e
  split at e
  · rename_i i
    split at e
    · rename_i xs q
      obtain ⟨a, o, rfl, _, h, vs, rfl, r'⟩ := Rp.ptr st r q
      unfold toPy at e
      cases q2 : toPys xs with
      | none => rw [q2] at e; cases e
      | some ds =>
        rw [q2] at e; cases e
        exact .lst (SqL.of h) (dps_of st xs r' q2)
    · cases e
  · exact dp_of st x r e
end
theorem k_eq {K : PySem.W.Frag} : Ok2 L (rEqD K) (oEq false) := by
  intro W s I B H Q S v u x y st rx ry f
  unfold oEq at f
  split at f
  · rename_i d e h1 h2
    split at f
    · rename_i h
      obtain ⟨h3, h4⟩ := Bool.and_eq_true_iff.mp h
      exact ⟨d, e, dp_look st rx h1, dp_look st ry h2, h3, h4, Fin.here f st rfl⟩
    · exact f.elim
  · exact f.elim
theorem k_ne {K : PySem.W.Frag} : Ok2 L (rNeD K) (oEq true) := by
  intro W s I B H Q S v u x y st rx ry f
  unfold oEq at f
  split at f
  · rename_i d e h1 h2
    split at f
    · rename_i h
      obtain ⟨h3, h4⟩ := Bool.and_eq_true_iff.mp h
      exact ⟨d, e, dp_look st rx h1, dp_look st ry h2, h3, h4, Fin.here f st rfl⟩
    · exact f.elim
  · exact f.elim

/-! ### items -/
theorem ixN_get {α β : Type} {xs : List α} {ys : List β} (h : xs.length = ys.length) {i : Int} {y : β} (e : L2.atI ys i = some y) : ∃ j, L2.ixN xs.length i = some j ∧ ys[j]? = some y := by
  unfold L2.atI at e
  cases q : L2.ixN ys.length i with
  | none => rw [q] at e; cases e
  | some j => exact ⟨j, by rw [h]; exact q, by rw [q] at e; exact e⟩
theorem k_ix {K : PySem.W.Frag} (hK : K = TheK.K) : Ok2 L (rIx K) oIx := by
  intro W s I B H Q S v u x y st rx ry f
  unfold oIx at f
  split at f
  · rename_i xs i e
    cases ry
    split at f
    · rename_i w q
      obtain ⟨a, vs, rfl, h, r⟩ := items hK st rx e
      obtain ⟨j, h1, h2⟩ := ixN_get r.len q
      obtain ⟨w', h3, h4⟩ := r.get h2
      have q' : L2.atI vs i = some w' := by unfold L2.atI; rw [h1]; exact h3
      rcases h with h | h
      · exact .inl ⟨a, vs, i, w', rfl, rfl, h, q', f.here st h4⟩
      · exact .inr (.inl ⟨a, vs, i, w', rfl, rfl, h, q', f.here st h4⟩)
    · exact f.elim
  · exact f.elim
section
variable {a b : Expr} {ca cb : CE} {pos : Pos} {f : D → D → Store → R D}
theorem e_ix (ha : PE X a (rdE T W ca)) (hb : PE X b (rdE T W cb)) (hs : PlainIx b := by exact fun _ _ => rfl) (hK : X.K = TheK.K := by rfl) : PE X (.Subscript a b pos) (rdE T W (c2 oIx ca cb)) :=
  pe_imp (pe_ix ix_seq ha hb hs) fun _ _ _ h => two (k_ix hK) h
end
end CL
set_option Elab.async false
set_option linter.all false
set_option maxRecDepth 100000
/-! CL5: slices, displays, calls. -/
namespace CL
open PySem PySem.Spec PyProof.Rows L2
variable [TheK]
variable {L : Tl} {T : Pm} {X : Cx} {W : WX}

/-! ### slices -/
abbrev rO : List Addr → Hp → Option Int → Option Int → Prop := fun _ _ x y => x = y
theorem o_none : PO X none (rd T rO W oNone) := by
  refine ⟨fun pins s σ H Q I h => ?_⟩
  obtain ⟨H0, J, B, z, S, a, h⟩ := h
  exact po_none.run pins s σ H Q I (h J B H none (Gr.refl _ _ _) a.st rfl)
theorem o_some {e : Expr} {c : CE} (he : PE X e (rdE T W c)) : PO X (some e) (rd T rO W (oSome c)) := by
  refine ⟨fun pins s σ H Q I h => ?_⟩
  refine (po_some he).run pins s σ H Q I ?_
  obtain ⟨H0, J, B, z, S, a, h⟩ := h
  refine bind (rep2 := rO) (Q := Q) a h fun J B' H' S' v x g a1 r1 f1 => ?_
  cases x with
  | int i => exact ⟨i, r1, Fin.here (v := some i) f1 a1.st rfl⟩
  | _ => exact f1.elim
abbrev rSlAny (K : PySem.W.Frag) : V → Option Int → Option Int → Hp → VK → Prop := fun x lo hi H Q => rSlA K x lo hi H Q ∨ rSlL K x lo hi H Q ∨ rSlS x lo hi H Q
theorem sl_any : SlR X (rSlAny X.K) := SlR.or sl_tupA (SlR.or sl_list sl_str)
theorem Rps.cut {I : List Addr} {B : Hp} {vs : List V} {xs : List D} (r : Rps I B vs xs) (lo hi : Option Int) : Rps I B (cutV vs lo hi) (cutL xs lo hi) := by
  unfold cutV cutL
  rw [r.len]
  exact (r.drop _).take _
theorem cutL_whole {xs : List D} {lo hi : Option Int} (h : HT.sIx xs.length 0 lo = 0 ∧ HT.sIx xs.length xs.length hi = xs.length) : cutL xs lo hi = xs := by
  unfold cutL
  rw [h.1, h.2]
  simp
theorem k_cut {K : PySem.W.Frag} {s : L2.St} {I : List Addr} {B H : Hp} {Q : VK} {S : Store} {v : V} {x : D} {lo hi : Option Int} (st : Sto L I B H S) (rx : Rp I B v x) (f : Fin L Rp W s I B H Q (oCut x lo hi S)) : rSlAny K v lo hi H Q := by
  unfold oCut at f
  split at f
  · obtain ⟨a, vs, rfl, ha, b, r⟩ := Rp.tup st rx
    refine .inl ⟨a, vs, rfl, SqT.of ha, fun e => ?_, fun _ p hp => f.newT st (r.cut lo hi) hp⟩
    rw [r.len] at e
    rw [cutL_whole e] at f
    exact f.here st ⟨a, vs, rfl, b, r⟩
  · obtain ⟨a, vs, rfl, ha, b, r⟩ := Rp.lst st rx
    exact .inr (.inl ⟨a, vs, rfl, SqL.of ha, fun p hp => f.newL st (r.cut lo hi) hp⟩)
  · split at f
    · rename_i h
      cases rx
      exact .inr (.inr ⟨_, rfl, line_le h, f.here st rfl⟩)
    · exact f.elim
  · split at f
    · rename_i e
      obtain ⟨a, o, rfl, _, ha, vs, rfl, r⟩ := Rp.ptr st rx e
      exact .inr (.inl ⟨a, vs, rfl, SqL.of ha, fun p hp => f.newL st (r.cut lo hi) hp⟩)
    · exact f.elim
  · exact f.elim
theorem e_cut {e : Expr} {lo hi : Option Expr} {ce : CE} {cl ch : CO} {p2 pos : Pos} (he : PE X e (rdE T W ce)) (hl : PO X lo (rd T rO W cl)) (hu : PO X hi (rd T rO W ch)) : PE X (.Subscript e (.Slice lo hi none p2) pos) (rdE T W (cCut ce cl ch)) := by
  refine pe_imp (pe_slice sl_any he hl hu) ?_
  rintro s H Q ⟨H0, I, B, z, S, a, h⟩
  refine bind (rep := Rp) (rep2 := Rp) (Q := Q) a h fun J B' H' S' v x g a1 r1 f1 => ?_
  refine bind (rep := rO) (rep2 := Rp) (Q := Q) a1 f1 fun J2 B2 H2 S2 l l' g2 a2 r2 f2 => ?_
  refine bind (rep := rO) (rep2 := Rp) (Q := Q) a2 f2 fun J3 B3 H3 S3 u u' g3 a3 r3 f3 => ?_
  cases r2; cases r3
  exact k_cut a3.st ((r1.gr g2).gr g3) f3

/-! ### displays, calls of built-ins -/
section
variable {e : Expr} {es : List Expr} {ca : CA} {pos : Pos}
theorem e_tup {x1} (h : PA X es (rdA T W ca)) : PE X (.Tuple es x1 pos) (rdE T W (cTup ca)) := by
  refine pe_imp (pe_tup h) ?_
  rintro s H Q ⟨H0, I, B, z, S, a, h⟩
  refine bind (rep := Rps) (rep2 := Rp) (Q := Q) a h fun J B' H' S' v x g a1 r1 f1 => ?_
  split at f1
  · rename_i hl
    exact ⟨by rw [r1.len]; exact line_le hl, fun p hp => f1.newT a1.st r1 hp⟩
  · exact f1.elim
theorem e_lst (h : PA X es (rdA T W ca)) : PE X (.List es pos) (rdE T W (cLst ca)) := by
  refine pe_imp (pe_lst h) ?_
  rintro s H Q ⟨H0, I, B, z, S, a, h⟩
  refine bind (rep := Rps) (rep2 := Rp) (Q := Q) a h fun J B' H' S' v x g a1 r1 f1 => ?_
  split at f1
  · rename_i hl
    exact ⟨by rw [r1.len]; exact line_le hl, fun p hp => f1.newL a1.st r1 hp⟩
  · exact f1.elim
theorem app {r : List V → Hp → VK → Prop} {f : List D → Store → R D} (hf : OkA T.tabs r f) {s : L2.St} {H : Hp} {Q : VK} (h : rdE T W (cApp f ca) s H Q) : tCB r (rdA T W ca) s H Q := by
  obtain ⟨H0, I, B, z, S, a, h⟩ := h
  exact bind (rep := Rps) (rep2 := Rp) (Q := Q) a h fun J B' H' S' v x g a1 r1 f1 => hf a1.st r1 f1
/-- f(e, ..), f a built-in function; T(e, ..), T a built-in type -/
theorem e_callB {x : Str} {p : Pos} {id : String} {r : List V → Hp → VK → Prop} {f : List D → Store → R D} (hc : CallR X (.builtin id) r) (hf : OkA T.tabs r f) (hg : Gl X x) (hm : X.mg x = none) (hv : bootBuiltins x = some (.builtin id)) (ha : PA X (e :: es) (rdA T W ca))
    (hn : x ≠ "__name__" := by decide) (hdb : (x == ("__debug__" : Str)) = false := by decide)
    (he : starEach (e :: es) X.env = (false, eval e X.env) :: starEach es X.env := by rfl) (hpl : (backTo pos (starEach es X.env)).any (·.1) = false := by rfl) : PE X (.Call (.Name x p) (e :: es) [] pos) (rdE T W (cApp f ca)) :=
  pe_imp (pe_callB hc hg hm hv ha hn hdb he hpl) fun _ _ _ h => app hf h
theorem e_callTy {x : Str} {p : Pos} {id : String} {r : List V → Hp → VK → Prop} {f : List D → Store → R D} (hc : CallR X (.type id) r) (hf : OkA T.tabs r f) (hg : Gl X x) (hm : X.mg x = none) (hv : bootBuiltins x = some (.type id)) (ha : PA X (e :: es) (rdA T W ca))
    (hn : x ≠ "__name__" := by decide) (hdb : (x == ("__debug__" : Str)) = false := by decide)
    (he : starEach (e :: es) X.env = (false, eval e X.env) :: starEach es X.env := by rfl) (hpl : (backTo pos (starEach es X.env)).any (·.1) = false := by rfl) : PE X (.Call (.Name x p) (e :: es) [] pos) (rdE T W (cApp f ca)) :=
  pe_imp (pe_callTy hc hg hm hv ha hn hdb he hpl) fun _ _ _ h => app hf h
end

/-! ### the built-ins -/
theorem Rps.one {I : List Addr} {B : Hp} {vs : List V} {x : D} (r : Rps I B vs [x]) : ∃ v, vs = [v] ∧ Rp I B v x := by
  match vs, r with
  | [v], r => exact ⟨v, rfl, r.1⟩
theorem Rps.two {I : List Addr} {B : Hp} {vs : List V} {x y : D} (r : Rps I B vs [x, y]) : ∃ v u, vs = [v, u] ∧ Rp I B v x ∧ Rp I B u y := by
  match vs, r with
  | [v, u], r => exact ⟨v, u, rfl, r.1, r.2.1⟩
theorem items_ty {K : PySem.W.Frag} (hK : K = TheK.K) {I : List Addr} {B H : Hp} {S : Store} {v : V} {x : D} (st : Sto L I B H S) {xs : List D} (r : Rp I B v x) (e : itemsOf S x = some xs) : ∃ a vs, v = .ref a ∧ (SqL K H a vs ∨ SqT K H a vs) ∧ vs.length = xs.length ∧ Rps I B vs xs := by
  obtain ⟨a, vs, h1, h2, h3⟩ := items hK st r e
  exact ⟨a, vs, h1, h2, h3.len, h3⟩
theorem k_len {K : PySem.W.Frag} (hK : K = TheK.K) : OkA L (fun xs H Q => ∃ x n, xs = [x] ∧ LenV K x H n ∧ Q (.int n) H) bLen := by
  intro W s I B H Q S vs xs st r f
  unfold bLen at f
  split at f
  · obtain ⟨v, rfl, rv⟩ := r.one
    cases rv
    split at f
    · rename_i h
      exact ⟨_, _, rfl, ⟨line_le h, rfl⟩, f.here st rfl⟩
    · exact f.elim
  · obtain ⟨v, rfl, rv⟩ := r.one
    cases rv
    split at f
    · rename_i h
      exact ⟨_, _, rfl, ⟨line_le h, rfl⟩, f.here st rfl⟩
    · exact f.elim
  · obtain ⟨v, rfl, rv⟩ := r.one
    split at f
    · rename_i ys e
      obtain ⟨a, ws, rfl, h, hl, _⟩ := items_ty hK st rv e
      refine ⟨_, ys.length, rfl, ?_, f.here st rfl⟩
      rcases h with h | h
      · exact .inl ⟨ws, h, hl.symm⟩
      · exact .inr ⟨ws, h, hl.symm⟩
    · exact f.elim
  · exact f.elim
theorem k_int : OkA L (fun xs H Q => (∃ i, xs = [.int i] ∧ Q (.int i) H) ∨ ∃ k, xs = [.bl k] ∧ Q (.int (if k then 1 else 0)) H) bInt := by
  intro W s I B H Q S vs xs st r f
  unfold bInt at f
  split at f
  · obtain ⟨v, rfl, rv⟩ := r.one
    cases rv
    exact .inl ⟨_, rfl, f.here st rfl⟩
  · obtain ⟨v, rfl, rv⟩ := r.one
    cases rv
    exact .inr ⟨_, rfl, f.here st rfl⟩
  · exact f.elim
theorem k_max2 : OkA L (fun xs H Q => ∃ i j, xs = [.int i, .int j] ∧ Q (.int (if j > i then j else i)) H) bMax2 := by
  intro W s I B H Q S vs xs st r f
  unfold bMax2 at f
  split at f
  · obtain ⟨v, u, rfl, rv, ru⟩ := r.two
    cases rv; cases ru
    exact ⟨_, _, rfl, f.here st rfl⟩
  · exact f.elim
theorem k_min2 : OkA L (fun xs H Q => ∃ i j, xs = [.int i, .int j] ∧ Q (.int (if j < i then j else i)) H) bMin2 := by
  intro W s I B H Q S vs xs st r f
  unfold bMin2 at f
  split at f
  · obtain ⟨v, u, rfl, rv, ru⟩ := r.two
    cases rv; cases ru
    exact ⟨_, _, rfl, f.here st rfl⟩
  · exact f.elim
theorem k_list {K : PySem.W.Frag} (hK : K = TheK.K) : OkA L (fun xs H Q => ∃ p ys, xs = [.ref p] ∧ (SqL K H p ys ∨ SqT K H p ys) ∧ ∀ l, H l = none → Q (.ref l) (upd H l (.lst ys))) bList := by
  intro W s I B H Q S vs xs st r f
  unfold bList at f
  split at f
  · obtain ⟨v, rfl, rv⟩ := r.one
    split at f
    · rename_i ys e
      obtain ⟨a, ws, rfl, h, hl, hr⟩ := items_ty hK st rv e
      exact ⟨a, ws, rfl, h, fun p hp => f.newL st hr hp⟩
    · exact f.elim
  · exact f.elim
theorem k_tuple {K : PySem.W.Frag} (hK : K = TheK.K) : OkA L (fun xs H Q => ∃ p ys, xs = [.ref p] ∧ ((SqL K H p ys ∧ ∀ l, H l = none → Q (.ref l) (upd H l (.tup ys))) ∨ (SqT K H p ys ∧ Q (.ref p) H))) bTuple := by
  subst hK
  intro W s I B H Q S vs xs st r f
  unfold bTuple at f
  split at f
  · obtain ⟨v, rfl, rv⟩ := r.one
    obtain ⟨a, ws, rfl, ha, b, hr⟩ := Rp.tup st rv
    exact ⟨a, ws, rfl, .inr ⟨SqT.of ha, f.here st rv⟩⟩
  · obtain ⟨v, rfl, rv⟩ := r.one
    obtain ⟨a, ws, rfl, ha, b, hr⟩ := Rp.lst st rv
    exact ⟨a, ws, rfl, .inl ⟨SqL.of ha, fun p hp => f.newT st hr hp⟩⟩
  · obtain ⟨v, rfl, rv⟩ := r.one
    obtain ⟨a, rfl, ha⟩ := rv
    exact ⟨a, _, rfl, .inl ⟨st.scr ha, fun p hp => f.newT st (Rps.ints _) hp⟩⟩
  · obtain ⟨v, rfl, rv⟩ := r.one
    split at f
    · rename_i e
      obtain ⟨a, o, rfl, _, ha, ws, rfl, hr⟩ := Rp.ptr st rv e
      exact ⟨a, ws, rfl, .inl ⟨SqL.of ha, fun p hp => f.newT st hr hp⟩⟩
    · exact f.elim
  · exact f.elim
theorem k_strI : OkA L (fun xs H Q => ∃ i, xs = [.int i] ∧ i.natAbs.log2 < 1920 ∧ Q (.str (toString i)) H) bStrI := by
  intro W s I B H Q S vs xs st r f
  unfold bStrI at f
  split at f
  · obtain ⟨v, rfl, rv⟩ := r.one
    cases rv
    split at f
    · rename_i h
      exact ⟨_, rfl, h, f.here st rfl⟩
    · exact f.elim
  · exact f.elim
theorem intsOf_rps {I : List Addr} {B : Hp} : ∀ {vs : List V} {xs : List D} {ns : List Int}, Rps I B vs xs → intsOf xs = some ns → vs = ns.map V.int
  | [], [], ns, _, e => by unfold intsOf at e; cases e; rfl
  | v :: vs, .int i :: xs, ns, r, e => by
    unfold intsOf at e
    cases q : intsOf xs with
    | none => rw [q] at e; cases e
    | some ms =>
      rw [q] at e; cases e
      have h1 : v = .int i := r.1
      rw [h1, intsOf_rps r.2 q]; rfl
  | [], _ :: _, _, r, _ => r.elim
  | _ :: _, [], _, r, _ => r.elim
  | _ :: _, .non :: _, _, _, e => by cases e
  | _ :: _, .bl _ :: _, _, _, e => by cases e
  | _ :: _, .str _ :: _, _, _, e => by cases e
  | _ :: _, .byt _ :: _, _, _, e => by cases e
  | _ :: _, .tup _ :: _, _, _, e => by cases e
  | _ :: _, .lst _ :: _, _, _, e => by cases e
  | _ :: _, .scr _ :: _, _, _, e => by cases e
  | _ :: _, .dct _ _ :: _, _, _, e => by cases e
  | _ :: _, .obj _ _ _ :: _, _, _, e => by cases e
  | _ :: _, .ptr _ :: _, _, _, e => by cases e
  | _ :: _, .ref _ :: _, _, _, e => by cases e
  | _ :: _, .ty _ :: _, _, _, e => by cases e
end CL
set_option Elab.async false
set_option linter.all false
set_option maxRecDepth 100000
/-! CL6: states: stores into slots, own objects, the store. -/
namespace CL
open PySem PySem.Spec PyProof.Rows L2
variable [TheK]
variable {L : Tl} {T : Pm} {X : Cx} {W : WX}
section
variable {H0 : Hp} {I J : List Addr} {B H B' H' I0B : Hp} {I0 : List Addr} {s : L2.St} {z : Sl} {S : Store} {i j : Nat} {v : V} {x : D} {a p : Addr} {xs : List D} {vs : List V}

theorem RpM.nt {u : HO} {m : MO} (r : RpM I B u m) : ∀ ps, u ≠ .tbl ps := fun ps e => by
  subst e
  cases m with
  | lst _ => obtain ⟨_, h, _⟩ := r; cases h
  | dct _ _ => obtain ⟨_, h, _⟩ := r; cases h
  | ins _ _ _ => obtain ⟨_, _, h, _⟩ := r; cases h
theorem At.len (h : At T H0 I B H s z S) : s.length = z.length := h.sl.len
/-- a slot is stored -/
theorem At.setD (h : At T H0 I B H s z S) (i : Nat) (r : Rp I B v x) : At T H0 I B H (s.set i (some v)) (z.set i (.d x)) S := by
  refine ⟨⟨by simp [h.sl.len], fun j o y h1 h2 => ?_, fun j k b y w h1 h2 h3 h4 o1 o2 => ?_⟩, h.st⟩
  · rw [List.getElem?_set] at h1 h2
    by_cases e : i = j
    · subst e
      rw [if_pos rfl] at h1 h2
      split at h1
      · split at h2
        · cases h1; cases h2
          exact ⟨v, rfl, r⟩
        · cases h2
      · cases h1
    · rw [if_neg e] at h1 h2
      exact h.sl.ok j o y h1 h2
  · have q : ∀ {k : Nat} {w : SV}, (z.set i (.d x))[k]? = some w → isOwn w = true → k ≠ i := fun {k w} e o q => by
      subst q
      rw [List.getElem?_set_self'] at e
      cases t : z[k]? with
      | none => rw [t] at e; cases e
      | some _ => rw [t] at e; cases e; cases o
    have n1 := q h3 o1
    have n2 := q h4 o2
    rw [List.getElem?_set_ne (Ne.symm n1)] at h1 h3
    rw [List.getElem?_set_ne (Ne.symm n2)] at h2 h4
    exact h.sl.ne j k b y w h1 h2 h3 h4 o1 o2
theorem At.setU (h : At T H0 I B H s z S) (i : Nat) (o : Option V) : At T H0 I B H (s.set i o) (z.set i .u) S := by
  refine ⟨⟨by simp [h.sl.len], fun j o' y h1 h2 => ?_, fun j k b y w h1 h2 h3 h4 o1 o2 => ?_⟩, h.st⟩
  · rw [List.getElem?_set] at h1 h2
    by_cases e : i = j
    · subst e
      rw [if_pos rfl] at h1 h2
      split at h1
      · split at h2
        · cases h1; cases h2
          trivial
        · cases h2
      · cases h1
    · rw [if_neg e] at h1 h2
      exact h.sl.ok j o' y h1 h2
  · have q : ∀ {k : Nat} {w : SV}, (z.set i .u)[k]? = some w → isOwn w = true → k ≠ i := fun {k w} e o q => by
      subst q
      rw [List.getElem?_set_self'] at e
      cases t : z[k]? with
      | none => rw [t] at e; cases e
      | some _ => rw [t] at e; cases e; cases o
    have n1 := q h3 o1
    have n2 := q h4 o2
    rw [List.getElem?_set_ne (Ne.symm n1)] at h1 h3
    rw [List.getElem?_set_ne (Ne.symm n2)] at h2 h4
    exact h.sl.ne j k b y w h1 h2 h3 h4 o1 o2
theorem Sto.notIn (st : Sto L I B H S) (hp : H p = none) : p ∉ I := fun ha => by
  obtain ⟨k, hk⟩ := List.mem_iff_getElem?.mp ha
  have hl : k < S.length := by
    have := (List.getElem?_eq_some_iff.mp hk).1
    rw [st.len] at this; exact this
  obtain ⟨b, u, h1, h2, _⟩ := st.at_ k S[k] (List.getElem?_eq_getElem hl)
  rw [hk] at h1; cases h1
  rw [hp] at h2; cases h2
theorem Sto.noB (st : Sto L I B H S) (hp : H p = none) : B p = none := by
  cases q : B p with
  | none => rfl
  | some o => rw [st.sub _ _ q] at hp; cases hp
/-- all stands as it stood: a slot stands -/
theorem SlotOk.keep {T : Pm} {o : Option V} {y : SV} (h : SlotOk T H0 I B H o y) (k : ∀ b u, H b = some u → H' b = some u) : SlotOk T H0 I B H' o y := by
  cases y with
  | u => trivial
  | d x => exact h
  | l xs => obtain ⟨a, vs, e, ha, r, ow⟩ := h; exact ⟨a, vs, e, k _ _ ha, r, ow⟩
  | m ks xs => obtain ⟨a, vs, e, ha, hl, r, ow⟩ := h; exact ⟨a, vs, e, k _ _ ha, hl, r, ow⟩
  | f => obtain ⟨a, I1, B1, H1, h1, h2, h3, h4⟩ := h; exact ⟨a, I1, B1, H1, h1, h2, h3.more k, h4⟩
  | x e => exact h
theorem At.keep (h : At T H0 I B H s z S) (k : ∀ b u, H b = some u → H' b = some u) : At T H0 I B H' s z S :=
  ⟨⟨h.sl.len, fun i o x h1 h2 => (h.sl.ok i o x h1 h2).keep k, h.sl.ne⟩, h.st.mono_H k⟩
theorem own_at {T : Pm} {y : SV} (h : SlotOk T H0 I B H (some (V.ref a)) y) (o : isOwn y = true) : (∃ u, H a = some u ∧ (∀ ps, u ≠ .tbl ps) ∧ ∀ q, u ≠ HO.ext q) ∧ Own H0 I B a := by
  cases y with
  | l xs => obtain ⟨b, vs, e, ha, r, ow⟩ := h; cases e; exact ⟨⟨_, ha, (fun ps z => by cases z), (fun q z => by cases z)⟩, ow⟩
  | m ks xs => obtain ⟨b, vs, e, ha, hl, r, ow⟩ := h; cases e; exact ⟨⟨_, ha, (fun ps z => by cases z), (fun q z => by cases z)⟩, ow⟩
  | u => cases o
  | d x => cases o
  | f => cases o
  | x e => cases o
/-- an own list, an own dict is made -/
theorem At.newOwn (h : At T H0 I B H s z S) (i : Nat) (g0 : Fr H0 p) (hp : H p = none) {o : HO} {y : SV} (ok : SlotOk T H0 I B (upd H p o) (some (.ref p)) y) : At T H0 I B (upd H p o) (s.set i (some (.ref p))) (z.set i y) S := by
  have h' := h.keep (keep_new (o := o) hp)
  refine ⟨⟨by simp [h.sl.len], fun j o' w h1 h2 => ?_, fun j k b w w' h1 h2 h3 h4 o1 o2 => ?_⟩, h'.st⟩
  · rw [List.getElem?_set] at h1 h2
    by_cases e : i = j
    · subst e
      rw [if_pos rfl] at h1 h2
      split at h1
      · split at h2
        · cases h1; cases h2; exact ok
        · cases h2
      · cases h1
    · rw [if_neg e] at h1 h2
      exact h'.sl.ok j o' w h1 h2
  · have q : ∀ {k : Nat} {w : SV}, k ≠ i → (s.set i (some (.ref p)))[k]? = some (some (V.ref b)) → (z.set i y)[k]? = some w → isOwn w = true → b ≠ p := fun {k w} n e1 e2 o => by
      rw [List.getElem?_set_ne (Ne.symm n)] at e1 e2
      obtain ⟨⟨u, hu, _⟩, _⟩ := own_at (h.sl.ok k _ w e1 e2) o
      intro e; subst e; rw [hp] at hu; cases hu
    have self : ∀ {k : Nat}, k = i → (s.set i (some (.ref p)))[k]? = some (some (V.ref b)) → b = p := fun {k} n e1 => by
      subst n
      rw [List.getElem?_set_self'] at e1
      cases t : s[k]? with
      | none => rw [t] at e1; cases e1
      | some _ => rw [t] at e1; cases e1; rfl
    by_cases n1 : j = i
    · by_cases n2 : k = i
      · rw [n1, n2]
      · exact absurd (self n1 h1) (q n2 h2 h4 o2)
    · by_cases n2 : k = i
      · exact absurd (self n2 h2) (q n1 h1 h3 o1)
      · rw [List.getElem?_set_ne (Ne.symm n1)] at h1 h3
        rw [List.getElem?_set_ne (Ne.symm n2)] at h2 h4
        exact h.sl.ne j k b w w' h1 h2 h3 h4 o1 o2
theorem tab_upd {o u : HO} (t : TbOk L H) (ha : H a = some o) (n1 : ∀ ps, o ≠ .tbl ps) (n2 : ∀ f, o ≠ .ext f) : TbOk L (upd H a u) := by
  refine ⟨fun q hq => ?_, fun p hp => ?_⟩
  · obtain ⟨ps, h1, h2, h3⟩ := t.1 q hq
    refine ⟨ps, ?_, h2, fun pos cv e => ?_⟩
    · rw [upd_ne]
      · exact h1
      · intro e; rw [e, ha] at h1; cases h1; exact n1 _ rfl
    · obtain ⟨c, e1, e2⟩ := h3 pos cv e
      refine ⟨c, e1, ?_⟩
      rw [upd_ne]
      · exact e2
      · intro e; rw [e, ha] at e2; cases e2; exact n2 _ rfl
  · have e2 := t.2 p hp
    rw [upd_ne]
    · exact e2
    · intro e; rw [e, ha] at e2; cases e2; exact n2 _ rfl
theorem gr_own (g : Gr I0 I0B H0 I B H) (h0 : Fr H0 a) {u : HO} : Gr I0 I0B H0 I B (upd H a u) where
  pre := g.pre
  ext := g.ext
  new := g.new
  keep := fun b o h n t => by
    have ne : b ≠ a := fun e => by subst e; exact h0.no h t
    rw [upd_ne ne]; exact g.keep b o h n t
  dom := fun b h => by
    by_cases e : b = a
    · exact e ▸ h0
    · exact g.dom b (h.down fun q => (e q).elim)
/-- an own object is written -/
theorem At.setOwn (h : At T H0 I B H s z S) (i : Nat) {o u : HO} {y y' : SV} (hs : s[i]? = some (some (.ref a))) (hz : z[i]? = some y) (oy : isOwn y = true) (ha : H a = some o) (n1 : ∀ ps, o ≠ .tbl ps) (n2 : ∀ f, o ≠ .ext f) (ow : Own H0 I B a)
    (ok : SlotOk T H0 I B (upd H a u) (some (.ref a)) y') : At T H0 I B (upd H a u) s (z.set i y') S := by
  have other : ∀ {k : Nat} {b : Addr} {w : SV}, k ≠ i → s[k]? = some (some (V.ref b)) → z[k]? = some w → isOwn w = true → b ≠ a := fun {k b w} n e1 e2 o3 e => by
    subst e
    exact n (h.sl.ne k i b w y e1 hs e2 hz o3 oy)
  refine ⟨⟨by simp [h.sl.len], fun j o' w h1 h2 => ?_, fun j k b w w' h1 h2 h3 h4 o1 o2 => ?_⟩, ?_⟩
  · rw [List.getElem?_set] at h2
    by_cases e : i = j
    · subst e
      rw [if_pos rfl] at h2
      rw [hs] at h1
      cases h1
      split at h2
      · cases h2; exact ok
      · cases h2
    · rw [if_neg e] at h2
      have q := h.sl.ok j o' w h1 h2
      cases w with
      | u => trivial
      | d x => exact q
      | l xs =>
        obtain ⟨b, vs, rfl, hb, r, ow'⟩ := q
        exact ⟨b, vs, rfl, by rw [upd_ne (other (Ne.symm e) h1 h2 rfl)]; exact hb, r, ow'⟩
      | m ks xs =>
        obtain ⟨b, vs, rfl, hb, hl, r, ow'⟩ := q
        exact ⟨b, vs, rfl, by rw [upd_ne (other (Ne.symm e) h1 h2 rfl)]; exact hb, hl, r, ow'⟩
      | f => obtain ⟨a', I1, B1, H1, h1, h2, h3, h4⟩ := q; exact ⟨a', I1, B1, H1, h1, h2, gr_own h3 (h4 _ ow.1), h4⟩
      | x e => exact q
  · have old : ∀ {k : Nat} {w : SV}, (z.set i y')[k]? = some w → isOwn w = true → ∃ w0, z[k]? = some w0 ∧ isOwn w0 = true := fun {k w} e o3 => by
      by_cases n : k = i
      · subst n; exact ⟨y, hz, oy⟩
      · rw [List.getElem?_set_ne (Ne.symm n)] at e; exact ⟨w, e, o3⟩
    obtain ⟨w0, e1, e2⟩ := old h3 o1
    obtain ⟨w1, e3, e4⟩ := old h4 o2
    exact h.sl.ne j k b w0 w1 h1 h2 e1 e3 e2 e4
  · have st := h.st
    refine ⟨st.len, st.nd, st.dj, fun b w q => ?_, st.nt, fun k m q => ?_, tab_upd st.tb ha n1 n2⟩
    · rw [upd_ne]
      · exact st.sub b w q
      · intro e; subst e; rw [ow.2.1] at q; cases q
    · obtain ⟨b, w, h1, h2, h3⟩ := st.at_ k m q
      refine ⟨b, w, h1, ?_, h3⟩
      rw [upd_ne]
      · exact h2
      · intro e; subst e; exact ow.2.2 (List.mem_of_getElem? h1)
theorem gr_write (hI : a ∈ I) {u : HO} (nt : ∀ ps, u ≠ .tbl ps) : Gr I B H I B (upd H a u) where
  pre := ⟨[], by simp, by simp⟩
  ext := fun _ _ h => h
  new := fun _ _ h => .inl h
  keep := fun b o h n t => by
    have ne : b ≠ a := fun e => n (e ▸ hI)
    rw [upd_ne ne]; exact h
  dom := fun b h => h.down fun q => by
    subst q
    exact (h.no upd_same nt).elim
/-- an object of the store is written -/
theorem At.write (h : At T H0 I B H s z S) {o u : HO} {m : MO} (hj : I[j]? = some a) (ha : H a = some o) (n1 : ∀ ps, o ≠ .tbl ps) (n2 : ∀ f, o ≠ .ext f) (r : RpM I B u m) : At T H0 I B (upd H a u) s z (S.set j m) := by
  have hI : a ∈ I := List.mem_of_getElem? hj
  have st := h.st
  refine ⟨⟨h.sl.len, fun i o' y h1 h2 => ?_, h.sl.ne⟩, by simpa using st.len, st.nd, st.dj, fun b w q => ?_, st.nt, fun k m' q => ?_, tab_upd st.tb ha n1 n2⟩
  · have q := h.sl.ok i o' y h1 h2
    have ne : ∀ {b : Addr}, Own H0 I B b → b ≠ a := fun {b} ow e => by subst e; exact ow.2.2 hI
    cases y with
    | u => trivial
    | d x => exact q
    | l xs => obtain ⟨b, vs, e, hb, r, ow⟩ := q; exact ⟨b, vs, e, by rw [upd_ne (ne ow)]; exact hb, r, ow⟩
    | m ks xs => obtain ⟨b, vs, e, hb, hl, r, ow⟩ := q; exact ⟨b, vs, e, by rw [upd_ne (ne ow)]; exact hb, hl, r, ow⟩
    | f =>
      obtain ⟨a', I1, B1, H1, e1, e2, e3, e4⟩ := q
      exact ⟨a', I1, B1, H1, e1, e2, e3.trans (gr_write hI r.nt), e4⟩
    | x e => exact q
  · rw [upd_ne]
    · exact st.sub b w q
    · intro e; subst e; rw [st.dj b hI] at q; cases q
  · rw [List.getElem?_set] at q
    by_cases e : j = k
    · subst e
      rw [if_pos rfl] at q
      split at q
      · cases q
        exact ⟨a, u, hj, upd_same, r⟩
      · cases q
    · rw [if_neg e] at q
      obtain ⟨b, w, h1, h2, h3⟩ := st.at_ k m' q
      refine ⟨b, w, h1, ?_, h3⟩
      rw [upd_ne]
      · exact h2
      · intro q; subst q
        exact e ((List.getElem?_inj (List.getElem?_eq_some_iff.mp hj).1 st.nd).mp (hj.trans h1.symm))
theorem gr_grow (st : Sto L I B H S) (hp : H p = none) {u : HO} : Gr I B H (I ++ [p]) B (upd H p u) where
  pre := ⟨[p], rfl, fun a ha => by
    have : a = p := by simpa using ha
    subst this; exact .of hp⟩
  ext := fun _ _ h => h
  new := fun _ _ h => .inl h
  keep := fun b o h _ _ => keep_new hp b o h
  dom := fun b h => h.down fun q => by subst q; exact .of hp
/-- a new object of the store -/
theorem At.grow (h : At T H0 I B H s z S) {u : HO} {m : MO} (hp : H p = none) (r : RpM (I ++ [p]) B u m) : At T H0 (I ++ [p]) B (upd H p u) s z (S ++ [m]) := by
  have st := h.st
  have hpI := st.notIn hp
  have k := keep_new (o := u) hp
  refine ⟨⟨h.sl.len, fun i o y h1 h2 => ?_, h.sl.ne⟩, by simp [st.len], ?_, fun b hb => ?_, fun b w q => k _ _ (st.sub b w q), st.nt, fun i m' q => ?_, st.tb.ext k⟩
  · have q := (h.sl.ok i o y h1 h2).keep k
    have ow' : ∀ {b : Addr} {w : HO}, H b = some w → Own H0 I B b → Own H0 (I ++ [p]) B b := fun {b w} hb ow => ⟨ow.1, ow.2.1, fun hm => by
      rcases List.mem_append.mp hm with e | e
      · exact ow.2.2 e
      · have e' : b = p := by simpa using e
        subst e'; rw [hp] at hb; cases hb⟩
    have q0 := h.sl.ok i o y h1 h2
    cases y with
    | u => trivial
    | d x => obtain ⟨v, e, r⟩ := q; exact ⟨v, e, Rp.mono ⟨[p], rfl⟩ (fun _ _ h => h) x r⟩
    | l xs =>
      obtain ⟨b, vs, e, hb, r, ow⟩ := q0
      exact ⟨b, vs, e, k _ _ hb, r.mono ⟨[p], rfl⟩ (xs := xs) fun _ _ h => h, ow' hb ow⟩
    | m ks xs =>
      obtain ⟨b, vs, e, hb, hl, r, ow⟩ := q0
      exact ⟨b, vs, e, k _ _ hb, hl, r.mono ⟨[p], rfl⟩ (xs := xs) fun _ _ h => h, ow' hb ow⟩
    | f =>
      obtain ⟨a', I1, B1, H1, e1, e2, e3, e4⟩ := q0
      exact ⟨a', I1, B1, H1, e1, e2, e3.trans (gr_grow st hp), e4⟩
    | x e =>
      obtain ⟨a, d, h1, h2, h3⟩ := q
      exact ⟨a, d, h1, h2, h3.mono ⟨[p], rfl⟩ fun _ _ h => h⟩
  · rw [List.nodup_append]
    exact ⟨st.nd, by simp, fun b hb c hc => by
      have : c = p := by simpa using hc
      subst this
      intro e; subst e; exact hpI hb⟩
  · rcases List.mem_append.mp hb with e | e
    · exact st.dj b e
    · have : b = p := by simpa using e
      subst this; exact st.noB hp
  · by_cases hi : i < S.length
    · rw [List.getElem?_append_left hi] at q
      obtain ⟨b, w, h1, h2, h3⟩ := st.at_ i m' q
      exact ⟨b, w, by rw [List.getElem?_append_left (by rw [st.len]; exact hi)]; exact h1, k _ _ h2, h3.mono ⟨[p], rfl⟩ fun _ _ h => h⟩
    · have hl := (List.getElem?_eq_some_iff.mp q).1
      have e : i = S.length := by simp at hl; omega
      subst e
      simp at q
      subst q
      exact ⟨p, u, by rw [← st.len]; simp, upd_same, r⟩
end
end CL
set_option Elab.async false
set_option linter.all false
set_option maxRecDepth 100000
/-! CL7: statements. -/
namespace CL
open PySem PySem.Spec PyProof.Rows L2
variable [TheK]
variable {L : Tl} {T : Pm} {X : Cx} {W : WX}

/-- what never shrinks -/
structure GB (I : List Addr) (B : Hp) (J : List Addr) (B' : Hp) : Prop where
  sub : ∃ k, J = I ++ k
  ext : ∀ a o, B a = some o → B' a = some o
theorem GB.rfl {I : List Addr} {B : Hp} : GB I B I B := ⟨⟨[], by simp⟩, fun _ _ h => h⟩
theorem GB.trans {I J L : List Addr} {B B' B2 : Hp} (g : GB I B J B') (k : GB J B' L B2) : GB I B L B2 := by
  obtain ⟨k1, rfl⟩ := g.sub
  obtain ⟨k2, rfl⟩ := k.sub
  exact ⟨⟨k1 ++ k2, by simp⟩, fun a o h => k.ext a o (g.ext a o h)⟩
theorem Gr.gb {I J : List Addr} {B B' H H' : Hp} (g : Gr I B H J B' H') : GB I B J B' := ⟨g.sub, g.ext⟩
section
variable (T) (I0 : List Addr) (B0 H0 : Hp) (W : WX) (I : List Addr) (B : Hp)
def FinS (D : Ends) : O → Prop
  | .nx z S => ∀ J B' H s, Gr I0 B0 H0 J B' H → GB I B J B' → At T H0 J B' H s z S → D.nx s H
  | .bk z S => ∀ J B' H s, Gr I0 B0 H0 J B' H → GB I B J B' → At T H0 J B' H s z S → D.bk s H
  | .ct z S => ∀ J B' H s, Gr I0 B0 H0 J B' H → GB I B J B' → At T H0 J B' H s z S → D.ct s H
  | .rt d S => ∀ J B' H v, Gr I0 B0 H0 J B' H → GB I B J B' → Sto T.tabs J B' H S → Rp J B' v d → D.rt v H
  | .exc x z S => ∀ J B' H s c dd, Gr I0 B0 H0 J B' H → GB I B J B' → At T H0 J B' H s z S → RpX J B' c dd x → W c dd s H
  | .bad => False
end
section
variable (T) (I0 : List Addr) (B0 H0 : Hp) (W : WX)
def rdS (c : CS) : TS := fun D s H => ∃ I B z S, Gr I0 B0 H0 I B H ∧ At T H0 I B H s z S ∧ FinS T I0 B0 H0 W I B D (c z S)
end
theorem FinS.gb {I0 : List Addr} {B0 H0 : Hp} {I J : List Addr} {B B' : Hp} {En : Ends} {o : O} (h : FinS T I0 B0 H0 W I B En o) (g : GB I B J B') : FinS T I0 B0 H0 W J B' En o := by
  cases o with
  | nx z S => exact fun J2 B2 H s g0 g2 => h J2 B2 H s g0 (g.trans g2)
  | bk z S => exact fun J2 B2 H s g0 g2 => h J2 B2 H s g0 (g.trans g2)
  | ct z S => exact fun J2 B2 H s g0 g2 => h J2 B2 H s g0 (g.trans g2)
  | rt d S => exact fun J2 B2 H v g0 g2 => h J2 B2 H v g0 (g.trans g2)
  | exc x z S => exact fun J2 B2 H s c dd g0 g2 => h J2 B2 H s c dd g0 (g.trans g2)
  | bad => exact h
section
variable {I0 : List Addr} {B0 H0 : Hp} {I : List Addr} {B H : Hp} {s : L2.St} {z : Sl} {S : Store} {D : Ends}
theorem gr0 {I J : List Addr} {B B' H H' : Hp} (g : Gr I0 B0 H0 I B H) (k : Gr I B H J B' H') : Gr I0 B0 H0 J B' H' := g.trans k
/-- a piece within a statement -/
theorem sdo {α β : Type} {rep : List Addr → Hp → β → α → Prop} {ca : C α} {f : α → Store → O} {P : β → Hp → Prop} (g0 : Gr I0 B0 H0 I B H) (a : At T H0 I B H s z S) (h : FinS T I0 B0 H0 W I B D (oDo (ca z S) z f))
    (k : ∀ J B' H' S' v x, Gr I0 B0 H0 J B' H' → Gr I B H J B' H' → At T H0 J B' H' s z S' → rep J B' v x → FinS T I0 B0 H0 W J B' D (f x S') → P v H') : rd T rep W ca s H P := by
  refine ⟨H0, I, B, z, S, a, ?_⟩
  cases e : ca z S with
  | ok x S' =>
    rw [e] at h
    exact fun J B' H' v g st r => k J B' H' S' v x (g0.trans g) g (a.gr g st) r (h.gb g.gb)
  | exc x S' =>
    rw [e] at h
    exact fun J B' H' c dd g st r => h J B' H' s c dd (g0.trans g) g.gb (a.gr g st) r
  | bad =>
    rw [e] at h
    exact h.elim
variable {e : Expr} {ce : CE} {pos : Pos} {st : Stmt} {rest : List Stmt} {c c2 : CS}
theorem s_nil : PSs X [] (rdS T I0 B0 H0 W sNil) := by
  refine pss_imp pss_nil ?_
  rintro D s H ⟨I, B, z, S, g, a, f⟩
  exact f I B H s g GB.rfl a
theorem s_pass : PS X (.Pass pos) (rdS T I0 B0 H0 W sNil) := by
  refine ps_imp ps_pass ?_
  rintro D s H ⟨I, B, z, S, g, a, f⟩
  exact f I B H s g GB.rfl a
theorem s_break : PS X (.Break pos) (rdS T I0 B0 H0 W sBreak) := by
  refine ps_imp ps_break ?_
  rintro D s H ⟨I, B, z, S, g, a, f⟩
  exact f I B H s g GB.rfl a
theorem s_cont : PS X (.Continue pos) (rdS T I0 B0 H0 W sCont) := by
  refine ps_imp ps_continue ?_
  rintro D s H ⟨I, B, z, S, g, a, f⟩
  exact f I B H s g GB.rfl a
theorem s_never : PS X st (rdS T I0 B0 H0 W sNever) := ⟨fun _ _ _ _ _ _ ⟨_, _, _, _, _, _, f⟩ => f.elim⟩
theorem ss_never {sts : List Stmt} : PSs X sts (rdS T I0 B0 H0 W sNever) := ⟨fun _ _ _ _ _ _ ⟨_, _, _, _, _, _, f⟩ => f.elim⟩
theorem s_one (h1 : PS X st (rdS T I0 B0 H0 W c)) : PSs X [st] (rdS T I0 B0 H0 W c) := pss_one h1
theorem s_cons (h1 : PS X st (rdS T I0 B0 H0 W c)) (h2 : PSs X rest (rdS T I0 B0 H0 W c2)) : PSs X (st :: rest) (rdS T I0 B0 H0 W (sSeq c c2)) := by
  refine pss_imp (pss_cons h1 h2) ?_
  rintro D s H ⟨I, B, z, S, g, a, f⟩
  refine ⟨I, B, z, S, g, a, ?_⟩
  unfold sSeq at f
  cases q : c z S with
  | nx z' S' =>
    rw [q] at f
    exact fun J B' H' s' g' gb a' => ⟨J, B', z', S', g', a', FinS.gb f gb⟩
  | rt d S' => rw [q] at f; exact f
  | bk z' S' => rw [q] at f; exact f
  | ct z' S' => rw [q] at f; exact f
  | exc x z' S' => rw [q] at f; exact f
  | bad => rw [q] at f; exact f
theorem s_expr (he : PE X e (rdE T W ce)) (hs : swapsWith e none pos.line X.env = pure false := by rfl) : PS X (.Expr e pos) (rdS T I0 B0 H0 W (sExpr ce)) := by
  refine ps_imp (ps_expr he hs) ?_
  rintro D s H ⟨I, B, z, S, g, a, f⟩
  exact sdo (rep := Rp) g a f fun J B' H' S' v x g0 g1 a1 r1 f1 => f1 J B' H' s g0 GB.rfl a1
theorem s_doc {x j pos pos'} : PS X (.Expr (.Constant (.str x) j pos) pos') (rdS T I0 B0 H0 W sNil) := by
  refine ps_imp ps_doc ?_
  rintro D s H ⟨I, B, z, S, g, a, f⟩
  exact f I B H s g GB.rfl a
theorem s_ret (he : PE X e (rdE T W ce)) : PS X (.Return (some e) pos) (rdS T I0 B0 H0 W (sRet ce)) := by
  refine ps_imp (ps_ret he) ?_
  rintro D s H ⟨I, B, z, S, g, a, f⟩
  exact sdo (rep := Rp) g a f fun J B' H' S' v x g0 g1 a1 r1 f1 => f1 J B' H' v g0 GB.rfl a1.st r1
theorem s_retN : PS X (.Return none pos) (rdS T I0 B0 H0 W sRetN) := by
  refine ps_imp ps_retN ?_
  rintro D s H ⟨I, B, z, S, g, a, f⟩
  exact f I B H .non g GB.rfl a.st rfl
theorem s_if {cnd : Expr} {b1 b2 : List Stmt} {t : CT} (hc : PT X cnd (rdT T W t)) (ha : PSs X b1 (rdS T I0 B0 H0 W c)) (hb : PSs X b2 (rdS T I0 B0 H0 W c2)) : PS X (.If cnd b1 b2 pos) (rdS T I0 B0 H0 W (sIf t c c2)) := by
  refine ps_imp (ps_if hc ha hb) ?_
  rintro D s H ⟨I, B, z, S, g, a, f⟩
  refine sdo (rep := rB) g a f fun J B' H' S' v x g0 g1 a1 r1 f1 => ?_
  cases r1
  cases v with
  | true => exact ⟨J, B', z, S', g0, a1, f1⟩
  | false => exact ⟨J, B', z, S', g0, a1, f1⟩
theorem s_set {i : Nat} {x : Str} {pos' : Pos} (hN : X.N.Nodup) (hi : X.N[i]? = some x) (hx : Loc X.env.scope x) (he : PE X e (rdE T W ce)) (hs : swapsWith e (some (.Name x pos')) pos.line X.env = pure false := by rfl) (hf : X.fn x = true ∨ X.env.scope.names.lookup x = some .local := by first | exact .inl rfl | exact .inr rfl | assumption) :
    PS X (.Assign [.Name x pos'] e pos) (rdS T I0 B0 H0 W (sSet i ce)) := by
  refine ps_imp (ps_set hN hi hx he hs hf) ?_
  rintro D s H ⟨I, B, z, S, g, a, f⟩
  exact sdo (rep := Rp) g a f fun J B' H' S' v x g0 g1 a1 r1 f1 => f1 J B' H' _ g0 GB.rfl (a1.setD i r1)
/-- the statement's state, an own list laid down for good -/
theorem s_frz {i : Nat} (h : PS X st (rdS T I0 B0 H0 W c)) : PS X st (rdS T I0 B0 H0 W (sFrz i c)) := by
  refine ps_imp h ?_
  rintro D s H ⟨I, B, z, S, g, a, f⟩
  unfold sFrz at f
  split at f
  · rename_i xs e
    obtain ⟨o, hs, b, vs, rfl, hb, r, ow⟩ := a.sl.get e
    have hB : ∀ c u, B c = some u → upd B b (.lst vs) c = some u := fun c u h => by
      have : c ≠ b := fun q => by subst q; rw [ow.2.1] at h; cases h
      rw [upd_ne this]; exact h
    have g' : Gr I0 B0 H0 I (upd B b (.lst vs)) H := ⟨g.pre, fun c u h => hB c u (g.ext c u h), fun c u h => by
      by_cases q : c = b
      · exact .inr (q ▸ ow.1)
      · rw [upd_ne q] at h; exact g.new c u h, g.keep, g.dom⟩
    have r' : Rps I (upd B b (.lst vs)) vs xs := r.mono ⟨[], by simp⟩ (xs := xs) hB
    refine ⟨I, upd B b (.lst vs), z.set i (.d (.lst xs)), S, g', ?_, f.gb ⟨⟨[], by simp⟩, hB⟩⟩
    have so := a.st
    refine ⟨⟨by simp [a.sl.len], fun j o' y h1 h2 => ?_, fun j k c' y w h1 h2 h3 h4 o1 o2 => ?_⟩, so.len, so.nd, fun c hc => ?_, fun c u h => ?_, fun c u h => ?_, fun j m h => ?_, so.tb⟩
    · rw [List.getElem?_set] at h2
      by_cases q : i = j
      · subst q
        rw [if_pos rfl] at h2
        split at h2
        · cases h2
          rw [hs] at h1; cases h1
          exact ⟨_, rfl, b, vs, rfl, upd_same, r'⟩
        · cases h2
      · rw [if_neg q] at h2
        have p := a.sl.ok j o' y h1 h2
        have ne : ∀ {c' : Addr}, s[j]? = some (some (V.ref c')) → isOwn y = true → c' ≠ b := fun {c'} hc o3 e3 => by
          subst e3
          exact q (a.sl.ne i j c' _ y hs hc e h2 rfl o3)
        cases y with
        | u => trivial
        | d x => obtain ⟨v, e1, r1⟩ := p; exact ⟨v, e1, Rp.mono ⟨[], by simp⟩ hB x r1⟩
        | l ys =>
          obtain ⟨c', ws, rfl, hc, r1, ow1⟩ := p
          exact ⟨c', ws, rfl, hc, r1.mono ⟨[], by simp⟩ (xs := ys) hB, ow1.1, by rw [upd_ne (ne h1 rfl)]; exact ow1.2.1, ow1.2.2⟩
        | m ks ys =>
          obtain ⟨c', ws, rfl, hc, hl, r1, ow1⟩ := p
          exact ⟨c', ws, rfl, hc, hl, r1.mono ⟨[], by simp⟩ (xs := ys) hB, ow1.1, by rw [upd_ne (ne h1 rfl)]; exact ow1.2.1, ow1.2.2⟩
        | f => obtain ⟨a', I1, B1, H1, e1, e2, e3, e4⟩ := p; exact ⟨a', I1, B1, H1, e1, e2, e3.lay (e4 _ ow.1) ow.2.1, e4⟩
        | x e =>
          obtain ⟨a', d', h1, h2, h3⟩ := p
          exact ⟨a', d', h1, h2, h3.mono ⟨[], by simp⟩ hB⟩
    · have q : ∀ {k : Nat} {w : SV}, (z.set i (.d (.lst xs)))[k]? = some w → isOwn w = true → k ≠ i := fun {k w} e o q => by
        subst q
        rw [List.getElem?_set_self'] at e
        cases t : z[k]? with
        | none => rw [t] at e; cases e
        | some _ => rw [t] at e; cases e; cases o
      have n1 := q h3 o1
      have n2 := q h4 o2
      rw [List.getElem?_set_ne (Ne.symm n1)] at h3
      rw [List.getElem?_set_ne (Ne.symm n2)] at h4
      exact a.sl.ne j k c' y w h1 h2 h3 h4 o1 o2
    · have : c ≠ b := fun q => ow.2.2 (q ▸ hc)
      rw [upd_ne this]; exact so.dj c hc
    · by_cases q : c = b
      · subst q; rw [upd_same] at h; cases h; exact hb
      · rw [upd_ne q] at h; exact so.sub c u h
    · by_cases q : c = b
      · subst q; rw [upd_same] at h; cases h; exact fun ps z => by cases z
      · rw [upd_ne q] at h; exact so.nt c u h
    · obtain ⟨c, u, h1, h2, h3⟩ := so.at_ j m h
      exact ⟨c, u, h1, h2, h3.mono ⟨[], by simp⟩ hB⟩
  · exact f.elim

/-! ### targets -/
variable (T) in
def rdG (H0 : Hp) (g : Tg) : TG := fun v s H Q => ∃ I B z S d, At T H0 I B H s z S ∧ Rp I B v d ∧ match g d z with
  | some z' => ∀ s', At T H0 I B H s' z' S → Q s' H
  | none => False
variable (T) in
def rdGs (H0 : Hp) (g : Tgs) : TGs := fun vs s H Q => ∃ I B z S ds, At T H0 I B H s z S ∧ Rps I B vs ds ∧ match g ds z with
  | some z' => ∀ s', At T H0 I B H s' z' S → Q s' H
  | none => False
theorem pg_imp {tg : Expr} {t t' : TG} (h : PG X tg t) (k : ∀ v s H Q, t' v s H Q → t v s H Q) : PG X tg t' := ⟨fun pins s σ H v u Q I r hq => h.run pins s σ H v u Q I r (k _ _ _ _ hq)⟩
theorem pgs_imp {tg : List Expr} {t t' : TGs} (h : PGs X tg t) (k : ∀ v s H Q, t' v s H Q → t v s H Q) : PGs X tg t' := ⟨fun pins s σ H v u Q I r hq => h.run pins s σ H v u Q I r (k _ _ _ _ hq)⟩
theorem g_name {i : Nat} {x : Str} (hN : X.N.Nodup) (hi : X.N[i]? = some x) (hx : Loc X.env.scope x) (hf : X.fn x = true ∨ X.env.scope.names.lookup x = some .local := by first | exact .inl rfl | exact .inr rfl | assumption) : PG X (.Name x pos) (rdG T H0 (gN i)) := by
  refine pg_imp (pg_name hN hi hx hf) ?_
  rintro v s H Q ⟨I, B, z, S, d, a, r, f⟩
  exact f _ (a.setD i r)
theorem g_nil : PGs X [] (rdGs T H0 gNil) := by
  refine pgs_imp pgs_nil ?_
  rintro vs s H Q ⟨I, B, z, S, ds, a, r, f⟩
  unfold gNil at f
  match ds, vs, r with
  | [], [], _ => exact ⟨rfl, f s a⟩
theorem g_cons {tg : Expr} {tgs : List Expr} {g : Tg} {gs : Tgs} (h1 : PG X tg (rdG T H0 g)) (h2 : PGs X tgs (rdGs T H0 gs))
    (hs : (assignEach (tg :: tgs) X.env).map (·.2) = assign tg X.env :: (assignEach tgs X.env).map (·.2) := by rfl) : PGs X (tg :: tgs) (rdGs T H0 (gCons g gs)) := by
  refine pgs_imp (pgs_cons h1 h2 hs) ?_
  rintro vs s H Q ⟨I, B, z, S, ds, a, r, f⟩
  match ds, vs, r with
  | d :: ds, v :: vs, r =>
    refine ⟨v, vs, rfl, I, B, z, S, d, a, r.1, ?_⟩
    unfold gCons at f
    dsimp only at f
    cases q : g d z with
    | none => rw [q] at f; exact f
    | some z1 =>
      rw [q] at f
      dsimp only
      intro s' a'
      exact ⟨I, B, z1, S, ds, a', r.2, f⟩
  | [], _, _ => exact f.elim
theorem g_tup {es : List Expr} {k : Nat} {gs : Tgs} {n : Nat} (hc : X.calm = true) (h : PGs X es (rdGs T H0 gs)) (hn : (assignEach es X.env).length = n := by rfl) (hst : (assignEach es X.env).findIdx? (·.1) = none := by rfl) : PG X (.Tuple es k pos) (rdG T H0 (CL.gTup n gs)) := by
  refine pg_imp (pg_tup hc h hn hst) ?_
  rintro v s H Q ⟨I, B, z, S, d, a, r, f⟩
  unfold CL.gTup at f
  cases d with
  | tup xs =>
    obtain ⟨b, vs, rfl, hb, _, rv⟩ := Rp.tup a.st r
    dsimp only at f
    by_cases hl : xs.length = n
    · rw [if_pos hl] at f
      exact ⟨b, vs, rfl, SqT.of hb, by rw [rv.len]; exact hl, I, B, z, S, xs, a, rv, f⟩
    · rw [if_neg hl] at f; exact f.elim
  | _ => exact f.elim
theorem s_asg {tg : Expr} {g : Tg} (he : PE X e (rdE T W ce)) (hg : PG X tg (rdG T H0 g)) (hs : swapsWithSole [tg] e pos.line X.env = pure false := by rfl) (hw : swappedStores [tg] e X.env = pure none := by rfl)
    (h1 : (assignEach [tg] X.env).map (·.2) = [assign tg X.env] := by rfl) : PS X (.Assign [tg] e pos) (rdS T I0 B0 H0 W (sAsg ce g)) := by
  refine ps_imp (ps_asg he hg hs hw h1) ?_
  rintro D s H ⟨I, B, z, S, g', a, f⟩
  refine sdo (rep := Rp) g' a f fun J B' H' S' v x g0 g1 a1 r1 f1 => ?_
  refine ⟨J, B', z, S', x, a1, r1, ?_⟩
  cases q : g x z with
  | none => rw [q] at f1; exact f1
  | some z1 =>
    rw [q] at f1
    exact fun s' a' => f1 J B' H' s' g0 GB.rfl a'
theorem s_par {i j : Nat} {x y : Str} {a b : Expr} {ca : CA} {px py pt : Pos} {kt k2 pt2} (hc : X.calm = true) (hN : X.N.Nodup) (hi : X.N[i]? = some x) (hj : X.N[j]? = some y) (hij : i ≠ j)
    (hx : X.env.scope.names.lookup x = some .local) (hy : X.env.scope.names.lookup y = some .local) (ha : PA X [a, b] (rdA T W ca))
    (hw : swappedStores [.Tuple [.Name x px, .Name y py] kt pt] (.Tuple [a, b] k2 pt2) X.env = pure (some [x, y]))
    (hs : swapsWithSole [.Tuple [.Name x px, .Name y py] kt pt] (.Tuple [a, b] k2 pt2) pos.line X.env = pure false := by rfl) :
    PS X (.Assign [.Tuple [.Name x px, .Name y py] kt pt] (.Tuple [a, b] k2 pt2) pos) (rdS T I0 B0 H0 W (sPar i j ca)) := by
  refine ps_imp (ps_par hc hN hi hj hij hx hy ha hw hs) ?_
  rintro D s H ⟨I, B, z, S, g', a, f⟩
  refine sdo (rep := Rps) g' a f fun J B' H' S' vs xs g0 g1 a1 r1 f1 => ?_
  match xs, f1 with
  | [x, y], f1 =>
    obtain ⟨v, u, rfl, rv, ru⟩ := r1.two
    exact ⟨v, u, rfl, f1 J B' H' _ g0 GB.rfl ((a1.setD i rv).setD j ru)⟩
  | [], f1 => exact f1.elim
  | [_], f1 => exact f1.elim
  | _ :: _ :: _ :: _, f1 => exact f1.elim
end
end CL
set_option Elab.async false
set_option linter.all false
set_option maxRecDepth 100000
/-! CL8: defs by their bodies, calls, attributes, methods, properties, new objects. -/
namespace CL
open PySem PySem.Spec PyProof.Rows L2
variable [TheK]
variable {L : Tl} {T : Pm} {X : Cx} {W : WX}

abbrev kW (E : XK) : WX := fun c d _ H => E c d H
/-- the promise «it does what g tells» -/
def spG (L : Tl) (n : Nat) (g : G) : Sp := fun vs H Q E => ∃ I B S ds, vs.length = n ∧ Rps I B vs ds ∧ Sto L I B H S ∧ Fin L Rp (kW E) [] I B H Q (g ds S)
abbrev FnC (P : Program) (w : World) (K : PySem.W.Frag) (mg : Str → Option Value) (base : Heap) (L : Tl) (k : Nat) (f : Addr) (fd : FuncData) (ps : List Str) (g : G) : Prop := FnOk P w K mg base (L2.CX P w) k f fd ps (spG L ps.length g)

theorem start_at {I : List Addr} {B H : Hp} {S : Store} {vs : List V} {ds : List D} (N : List Str) (st : Sto L I B H S) (r : Rps I B vs ds) : At ⟨L, none, none⟩ H I B H (L2.start N vs) (ds.map SV.d ++ List.replicate (N.length - ds.length) SV.u) S := by
  have hl := r.len
  refine ⟨⟨by unfold L2.start; simp [hl], fun i o x h1 h2 => ?_, fun i j a x y h1 h2 h3 h4 o1 o2 => ?_⟩, st⟩
  · unfold L2.start at h1
    by_cases hi : i < ds.length
    · rw [List.getElem?_append_left (by simpa using hi), List.getElem?_map] at h2
      cases q : ds[i]? with
      | none => rw [q] at h2; cases h2
      | some d =>
        rw [q] at h2; cases h2
        obtain ⟨v, e1, e2⟩ := r.get q
        rw [List.getElem?_append_left (by simpa [hl] using hi), List.getElem?_map, e1] at h1
        cases h1
        exact ⟨v, rfl, e2⟩
    · rw [List.getElem?_append_right (by simpa using hi), List.getElem?_replicate] at h2
      split at h2
      · cases h2; trivial
      · cases h2
  · have no : ∀ {k : Nat} {w : SV}, (ds.map SV.d ++ List.replicate (N.length - ds.length) SV.u)[k]? = some w → isOwn w = true → False := fun {k w} e o => by
      by_cases hi : k < ds.length
      · rw [List.getElem?_append_left (by simpa using hi), List.getElem?_map] at e
        cases q : ds[k]? with
        | none => rw [q] at e; cases e
        | some d => rw [q] at e; cases e; cases o
      · rw [List.getElem?_append_right (by simpa using hi), List.getElem?_replicate] at e
        split at e
        · cases e; cases o
        · cases e
    exact (no h3 o1).elim
section
variable {P : Program} {w : World} {K : PySem.W.Frag} {mg : Str → Option Value} {base : Heap} {x qual : Str} {st : Stmt} {f : Addr} {fd : FuncData} {N ps : List Str} {k : Nat} {c : CS}
/-- THE RULE: a def does what its body's piece does -/
theorem fn_c (F : Fun K x qual st f fd) (S : FnScope N ps (defScope st))
    (hb : ∀ (cdv : Value) (A : Around) (outer : List Env) (s : Shared) (H : Hp) (E : XK) (I0 : List Addr) (B0 : Hp), Room k (A.deeper (envOfC qual (defScope st) s.heap.objs.size f cdv)) →
      PSs (cxOf (L2.CX P w) P w K mg base N qual (defScope st) f cdv A outer s H E) (defBody st) (rdS ⟨L, none, none⟩ I0 B0 H (kW E) c)) :
    FnC P w K mg base L (k + 1) f fd ps (run N.length c) := by
  refine F.okX S (fun vs H Q E h => ?_) (fun cdv A outer s H vs Q E hr h => ?_)
  · obtain ⟨I, B, S, ds, hl, _⟩ := h
    exact hl
  · obtain ⟨I, B, S, ds, hl, r, st', f⟩ := h
    refine ⟨_, hb cdv A outer s H E I B hr, I, B, _, S, Gr.refl I B H, start_at N st' r, ?_⟩
    unfold run at f
    cases q : c (ds.map SV.d ++ List.replicate (N.length - ds.length) SV.u) S with
    | nx z' S' => rw [q] at f; exact fun J B' H' s' g gb a => f J B' H' .non g a.st rfl
    | rt d S' => rw [q] at f; exact fun J B' H' v g gb st r => f J B' H' v g st r
    | exc x z' S' => rw [q] at f; exact fun J B' H' s' cc dd g gb a r => f J B' H' cc dd g a.st r
    | bk z' S' => rw [q] at f; exact f.elim
    | ct z' S' => rw [q] at f; exact f.elim
    | bad => rw [q] at f; exact f.elim
/-- a weaker promise: where g' tells something, g tells the same -/
theorem FnC.imp {g g' : G} (F : FnC P w K mg base L k f fd ps g) (h : ∀ ds S, g' ds S = g ds S ∨ g' ds S = .bad) : FnC P w K mg base L k f fd ps g' :=
  FnOk.imp F fun vs H Q E ⟨I, B, S, ds, hl, r, st, f⟩ => ⟨I, B, S, ds, hl, r, st, by
    rcases h ds S with e | e
    · rw [← e]; exact f
    · rw [e] at f; exact f.elim⟩
end
/-- what the caller wishes -/
theorem call_sp {E : XK} {I : List Addr} {B H H0 : Hp} {S : Store} {vs : List V} {ds : List D} {s : L2.St} {z : Sl} {Q : VK} {n : Nat} {g : G} (hl : vs.length = n) (a : At T H0 I B H s z S) (r : Rps I B vs ds) (f : Fin T.tabs Rp W s I B H Q (g ds S)) (hW : ∀ c d H, W c d s H → E c d H) :
    spG T.tabs n g vs H Q E := by
  refine ⟨I, B, S, ds, hl, r, a.st, ?_⟩
  cases q : g ds S with
  | ok d S' => rw [q] at f; exact f
  | exc x S' => rw [q] at f; exact fun J B' H' c dd g st rx => hW _ _ _ (f J B' H' c dd g st rx)
  | bad => rw [q] at f; exact f
section
variable {k : Nat} {f C : Addr} {fd : FuncData} {ps : List Str} {g : G} {x m : Str} {p pos apos : Pos} {e o : Expr} {es : List Expr} {co : CE} {ca : CA} {E : XK}
def AN (ca : CA) (n : Nat) : Prop := ∀ z S xs S', ca z S = .ok xs S' → xs.length = n
theorem an0 : AN aNil 0 := fun z S xs S' h => by unfold aNil at h; cases h; rfl
theorem an1 {c : CE} {r : CA} {n : Nat} (h : AN r n) : AN (aCons c r) (n + 1) := fun z S xs S' e => by
  unfold aCons at e
  cases q : c z S with
  | ok x S1 =>
    rw [q] at e
    simp only [R.bind] at e
    cases q2 : r z S1 with
    | ok ys S2 =>
      rw [q2] at e
      cases e
      simp [h _ _ _ _ q2]
    | exc _ _ => rw [q2] at e; cases e
    | bad => rw [q2] at e; cases e
  | exc _ _ => rw [q] at e; cases e
  | bad => rw [q] at e; cases e
/-- f(e, ..) -/
theorem e_call (F : FnC X.prog X.w X.K X.mg X.base T.tabs k f fd ps g) (hr : Room k X.A) (hg : Gl X x) (hm : X.mg x = some (.ref f)) (hk : PySem.W.keepIn X.K (.ref f) = true) (hb : Binds X.K fd ps []) (tk : Takes X W)
    (ha : PA X (e :: es) (rdA T W ca)) (hn : AN ca ps.length) (hdb : (x == ("__debug__" : Str)) = false := by decide) (he : starEach (e :: es) X.env = (false, eval e X.env) :: starEach es X.env := by rfl)
    (hpl : (backTo pos (starEach es X.env)).any (·.1) = false := by rfl) : PE X (.Call (.Name x p) (e :: es) [] pos) (rdE T W (cCall g ca)) := by
  refine pe_imp (pe_callS (E := WE W) F hr hg hm hk hb (fun σ => passAt tk σ) ha hdb he hpl) ?_
  rintro s H Q ⟨H0, I, B, z, S, a, h⟩
  have hn' := hn z S
  unfold cCall cApp at h
  cases q : ca z S with
  | ok xs S' =>
    refine ⟨H0, I, B, z, S, a, ?_⟩
    rw [q] at h ⊢
    exact fun J B' H' v g' st r => call_sp (by rw [r.len]; exact hn' xs S' q) (a.gr g' st) r (h.gr g') fun _ _ _ h => h
  | exc x S' =>
    refine ⟨H0, I, B, z, S, a, ?_⟩
    rw [q] at h ⊢
    exact h
  | bad => rw [q] at h; exact h.elim
/-- f() -/
theorem e_call0 {P : XK} (F : FnC X.prog X.w X.K X.mg X.base T.tabs k f fd ps g) (hr : Room k X.A) (hg : Gl X x) (hm : X.mg x = some (.ref f)) (hk : PySem.W.keepIn X.K (.ref f) = true) (hb : Binds X.K fd ps []) (hx : Passes (L2.CX X.prog X.w) X E)
    (hn : ps.length = 0) (hdb : (x == ("__debug__" : Str)) = false := by decide) : PE X (.Call (.Name x p) [] [] pos) (rdE T (kW E) (cCall g aNil)) := by
  refine pe_imp (pe_call0 F hr hg hm hk hb .nil hx hdb) ?_
  rintro s H Q ⟨H0, I, B, z, S, a, h⟩
  exact call_sp (W := kW E) (s := s) (vs := []) (ds := []) hn.symm a trivial h fun _ _ _ h => h

/-! ### attributes -/
/-- an instance, tracked -/
theorem insOf {I : List Addr} {B H : Hp} {S : Store} {v : V} {d : D} {C' : Addr} {ns : List Str} (st : Sto L I B H S) (r : Rp I B v d) (e : classOf S d = some (C', ns)) :
    ∃ a dx vs xs, v = .ref a ∧ H a = some (.ins C' dx (ns.zip vs)) ∧ ns.length = vs.length ∧ Rps I B vs xs ∧ ∀ fl, fieldOf S d fl = (ns.zip xs).lookup fl := by
  unfold classOf at e
  split at e
  · cases e
    obtain ⟨a, dx, vs, rfl, h, hl, rv⟩ := r
    exact ⟨a, dx, vs, _, rfl, st.sub _ _ h, hl, rv, fun fl => rfl⟩
  · split at e
    · rename_i q
      cases e
      obtain ⟨a, o, rfl, _, h, dx, vs, rfl, hl, rv⟩ := Rp.ptr st r q
      exact ⟨a, dx, vs, _, rfl, h, hl, rv, fun fl => by unfold fieldOf; simp only [q]⟩
    · cases e
  · cases e
theorem lookup_rps {I : List Addr} {B : Hp} {fl : Str} : ∀ {ns : List Str} {vs : List V} {xs : List D} {d : D}, ns.length = vs.length → Rps I B vs xs → (ns.zip xs).lookup fl = some d → ∃ v, (ns.zip vs).lookup fl = some v ∧ Rp I B v d
  | [], vs, xs, d, hl, r, e => by cases e
  | n :: ns, [], xs, d, hl, r, e => by cases hl
  | n :: ns, v :: vs, [], d, hl, r, e => by cases e
  | n :: ns, v :: vs, x :: xs, d, hl, r, e => by
    by_cases q : fl = n
    · subst q
      simp [List.lookup] at e
      subst e
      exact ⟨v, by simp [List.lookup], r.1⟩
    · have q' : (fl == n) = false := by simpa using q
      have e' : List.lookup fl (ns.zip xs) = some d := by simpa [List.lookup, q'] using e
      obtain ⟨u, h1, h2⟩ := lookup_rps (by simpa using hl) r.2 e'
      exact ⟨u, by simpa [List.lookup, q'] using h1, h2⟩
theorem lookup_not {α : Type} {fl : Str} : ∀ {ns : List Str} {vs : List α}, fl ∉ ns → (ns.zip vs).lookup fl = none
  | [], vs, h => rfl
  | n :: ns, [], h => rfl
  | n :: ns, v :: vs, h => by
    have q : (fl == n) = false := by
      simp at h
      simpa using h.1
    have : fl ∉ ns := fun e => h (List.mem_cons_of_mem _ e)
    simp only [List.zip_cons_cons, List.lookup, q]
    exact lookup_not this
/-- e.f, an attribute of an instance of the class at C -/
theorem e_fld (fl : Str) (he : PE X o (rdE T W co)) (c : Cls X.K C) (n : NoAttr X.K C fl) (hb : attributeBase o fl X.env (eval o X.env) = eval o X.env := by rfl) : PE X (.Attribute o fl pos) (rdE T W (cFld C fl co)) := by
  refine pe_imp (pe_fld he hb) ?_
  rintro s H Q ⟨H0, I, B, z, S, a, h⟩
  refine bind (rep := Rp) (rep2 := Rp) (Q := Q) a h fun J B' H' S' v d g a1 r1 f1 => ?_
  cases q1 : classOf S' d with
  | none => rw [q1] at f1; exact f1.elim
  | some p =>
    obtain ⟨C', ns⟩ := p
    cases q2 : fieldOf S' d fl with
    | none => rw [q1, q2] at f1; exact f1.elim
    | some y =>
      rw [q1, q2] at f1
      dsimp only at f1
      by_cases hC : C' = C
      · subst hC
        rw [if_pos rfl] at f1
        obtain ⟨b, dx, vs, xs, rfl, hb, hl, rv, hf⟩ := insOf a1.st r1 q1
        rw [hf] at q2
        obtain ⟨u, h1, h2⟩ := lookup_rps hl rv q2
        exact ⟨b, C', dx, _, u, rfl, hb, c, n, h1, f1.here a1.st h2⟩
      · rw [if_neg hC] at f1; exact f1.elim
/-- o.m(e, ..) -/
theorem e_meth {pl : Sem Bool} (he : PE X o (rdE T (kW E) co)) (c : Cls X.K C) (hm : Meth X.K C m f) (F : FnC X.prog X.w X.K X.mg X.base T.tabs k f fd ps g) (hr : Room k X.A) (hb : Binds X.K fd ps []) (hx : Passes (L2.CX X.prog X.w) X E) (ha : PA X (e :: es) (rdA T (kW E) ca)) {n : Nat} (hn : AN ca n) (hp : ps.length = n + 1)
    (hst : starEach (e :: es) X.env = (false, eval e X.env) :: starEach es X.env := by rfl) (hpl : (backTo pos (starEach es X.env)).any (·.1) = false := by rfl)
    (ht : eval (.Call (.Attribute o m apos) (e :: es) [] pos) X.env = (do
      let ov ← eval o X.env
      standAt apos.atName
      let (f, first) ← holding [ov] (getMethod ov m pl)
      callWith pos f first (backTo pos (starEach (e :: es) X.env)) (backToKw pos (keywordEach [] X.env))) := by rfl) :
    PE X (.Call (.Attribute o m apos) (e :: es) [] pos) (rdE T (kW E) (cMeth C m g co ca)) := by
  refine pe_imp (pe_meth (pl := pl) he c hm F hr hb .nil hx ha hst hpl ht) ?_
  rintro s H Q ⟨H0, I, B, z, S, a, h⟩
  refine bind (rep := Rp) (rep2 := Rp) (Q := Q) a h fun J B' H' S' v d g1 a1 r1 f1 => ?_
  cases q1 : classOf S' d with
  | none => rw [q1] at f1; exact f1.elim
  | some pq =>
    obtain ⟨C', ns⟩ := pq
    rw [q1] at f1
    dsimp only at f1
    by_cases hC : C' = C ∧ m ∉ ns
    · rw [if_pos hC] at f1
      obtain ⟨rfl, hC2⟩ := hC
      obtain ⟨b, dx, vs, xs, rfl, hb, hl, rv, hf⟩ := insOf a1.st r1 q1
      refine ⟨b, dx, _, rfl, hb, lookup_not hC2, ?_⟩
      have hn' := hn z S'
      cases q : ca z S' with
      | ok ys S2 =>
        refine ⟨H0, J, B', z, S', a1, ?_⟩
        rw [q] at f1 ⊢
        exact fun J2 B2 H2 us g2 st r => by
          show spG T.tabs ps.length g (V.ref b :: (us ++ [])) H2 Q E
          rw [List.append_nil]
          exact call_sp (W := kW E) (s := s) (ds := d :: ys) (by simp [r.len, hn' ys S2 q, hp]) (a1.gr g2 st) ⟨r1.gr g2, r⟩ (f1.gr g2) fun _ _ _ h => h
      | exc x S2 =>
        refine ⟨H0, J, B', z, S', a1, ?_⟩
        rw [q] at f1 ⊢
        exact f1
      | bad => rw [q] at f1; exact f1.elim
    · rw [if_neg hC] at f1; exact f1.elim
/-- o.m() -/
theorem e_meth0 {pl : Sem Bool} (he : PE X o (rdE T (kW E) co)) (c : Cls X.K C) (hm : Meth X.K C m f) (F : FnC X.prog X.w X.K X.mg X.base T.tabs k f fd ps g) (hr : Room k X.A) (hb : Binds X.K fd ps []) (hx : Passes (L2.CX X.prog X.w) X E) (hp : ps.length = 1)
    (ht : eval (.Call (.Attribute o m apos) [] [] pos) X.env = (do
      let ov ← eval o X.env
      standAt apos.atName
      let (f, first) ← holding [ov] (getMethod ov m pl)
      callWith pos f first (backTo pos (starEach [] X.env)) (backToKw pos (keywordEach [] X.env))) := by rfl) :
    PE X (.Call (.Attribute o m apos) [] [] pos) (rdE T (kW E) (cMeth C m g co aNil)) := by
  refine pe_imp (pe_meth0 (pl := pl) he c hm F hr hb .nil hx ht) ?_
  rintro s H Q ⟨H0, I, B, z, S, a, h⟩
  refine bind (rep := Rp) (rep2 := Rp) (Q := Q) a h fun J B' H' S' v d g1 a1 r1 f1 => ?_
  cases q1 : classOf S' d with
  | none => rw [q1] at f1; exact f1.elim
  | some pq =>
    obtain ⟨C', ns⟩ := pq
    rw [q1] at f1
    dsimp only at f1
    by_cases hC : C' = C ∧ m ∉ ns
    · rw [if_pos hC] at f1
      obtain ⟨rfl, hC2⟩ := hC
      obtain ⟨b, dx, vs, xs, rfl, hb, hl, rv, hf⟩ := insOf a1.st r1 q1
      exact ⟨b, dx, _, rfl, hb, lookup_not hC2, call_sp (W := kW E) (s := s) (vs := [.ref b]) (ds := [d]) hp.symm a1 ⟨r1, trivial⟩ f1 fun _ _ _ h => h⟩
    · rw [if_neg hC] at f1; exact f1.elim
/-- o.p, p a property whose getter lets no exception out -/
def gNox (g : G) : G := fun ds S => match g ds S with
  | .ok d S' => .ok d S'
  | _ => .bad
theorem e_prop {pa : Addr} {fl : Str} (he : PE X o (rdE T (kW E) co)) (c : Cls X.K C) (hp : PropOf X.K C fl pa f) (F : FnC X.prog X.w X.K X.mg X.base T.tabs k f fd ps g) (hr : Room (k + 1) X.A) (hb : Binds X.K fd ps []) (hps : ps.length = 1)
    (hab : attributeBase o fl X.env (eval o X.env) = eval o X.env := by rfl) : PE X (.Attribute o fl pos) (rdE T (kW E) (cProp C (gNox g) co)) := by
  refine pe_imp (pe_prop he c hp F hr hb .nil (passL (X := X.nox)) hab) ?_
  rintro s H Q ⟨H0, I, B, z, S, a, h⟩
  refine bind (rep := Rp) (rep2 := Rp) (Q := Q) a h fun J B' H' S' v d g1 a1 r1 f1 => ?_
  cases q1 : classOf S' d with
  | none => rw [q1] at f1; exact f1.elim
  | some pq =>
    obtain ⟨C', ns⟩ := pq
    rw [q1] at f1
    dsimp only at f1
    by_cases hC : C' = C
    · rw [if_pos hC] at f1
      subst hC
      obtain ⟨b, dx, vs, xs, rfl, hb, hl, rv, hf⟩ := insOf a1.st r1 q1
      refine ⟨b, dx, _, rfl, hb, ?_⟩
      refine call_sp (W := fun _ _ _ _ => False) (s := s) (vs := [.ref b]) (ds := [d]) hps.symm a1 ⟨r1, trivial⟩ ?_ fun _ _ _ h => h
      unfold gNox at f1
      cases q : g [d] S' with
      | ok y S2 => rw [q] at f1; exact f1
      | exc y S2 => rw [q] at f1; exact f1.elim
      | bad => rw [q] at f1; exact f1.elim
    · rw [if_neg hC] at f1; exact f1.elim
end
end CL
set_option Elab.async false
set_option linter.all false
set_option maxRecDepth 100000
/-! CL9: classes read; own lists; the store. -/
namespace CL
open PySem PySem.Spec PyProof.Rows L2
variable [TheK]
variable {L : Tl} {T : Pm} {X : Cx} {W : WX}
section
variable {k : Nat} {f C p : Addr} {mc : Value} {fd : FuncData} {ps : List Str} {g : G} {x m : Str} {pos apos : Pos} {e o : Expr} {es : List Expr} {co : CE} {ca : CA} {E : XK}
theorem e_cval {fl : Str} {d : D} {v : V} {u : Value} (he : PE X o (rdE T W co)) (r : ClX.CRead X.K C mc) (c : ClX.CVal X.K C mc fl v u) (rv : ∀ I B, Rp I B v d) (hb : attributeBase o fl X.env (eval o X.env) = eval o X.env := by rfl) :
    PE X (.Attribute o fl pos) (rdE T W (cVal C d co)) := by
  refine pe_imp (ClX.pe_cval he hb) ?_
  rintro s H Q ⟨H0, I, B, z, S, a, h⟩
  refine bind (rep := Rp) (rep2 := Rp) (Q := Q) a h fun J B' H' S' w y g a1 r1 f1 => ?_
  cases y with
  | ref b =>
    dsimp only at f1
    by_cases hC : b = C
    · rw [if_pos hC] at f1
      subst hC
      exact ⟨_, mc, v, u, r1, r, c, f1.here a1.st (rv _ _)⟩
    · rw [if_neg hC] at f1; exact f1.elim
  | _ => exact f1.elim
/-- C.m is a static method: its record at p, its def at f -/
structure SMet (K : PySem.W.Frag) (C : Addr) (mc : Value) (m : Str) (p f : Addr) : Prop where
  at_ : PySem.W.findCls K (.ref C) mc m = some (.get (.builtin "staticmethod.__get__") (.ref p) .none (.ref C))
  rc : ∃ rest, PySem.W.recIn K p "staticmethod" = some (.ref f :: rest)
  kp : PySem.W.keepIn K (.ref f) = true
theorem e_stat {pl : Sem Bool} (he : PE X o (rdE T W co)) (r : ClX.CRead X.K C mc) (c : SMet X.K C mc m p f) (F : FnC X.prog X.w X.K X.mg X.base T.tabs k f fd ps g) (hr : Room k X.A) (hb : Binds X.K fd ps []) (tk : Takes X W) (ha : PA X (e :: es) (rdA T W ca)) (hn : AN ca ps.length)
    (hst : starEach (e :: es) X.env = (false, eval e X.env) :: starEach es X.env := by rfl) (hpl : (backTo pos (starEach es X.env)).any (·.1) = false := by rfl)
    (ht : eval (.Call (.Attribute o m apos) (e :: es) [] pos) X.env = (do
      let ov ← eval o X.env
      standAt apos.atName
      let (f, first) ← holding [ov] (getMethod ov m pl)
      callWith pos f first (backTo pos (starEach (e :: es) X.env)) (backToKw pos (keywordEach [] X.env))) := by rfl) :
    PE X (.Call (.Attribute o m apos) (e :: es) [] pos) (rdE T W (cStat C g co ca)) := by
  refine ⟨fun pins s σ H Q I ⟨H0, I0, B, z, S, a, h⟩ => ?_⟩
  refine PySem.W.methodCall_KW (pl := pl) (thn (he.run pins s σ H (fun v H' => v = .ref C ∧ rd T Rps W ca σ H' fun vs H1 => spG T.tabs ps.length g vs H1 Q (WE W σ)) I ?_) fun u s1 ⟨v, H1, I1, r1, e1, q1⟩ => ?_) ht
  · refine bind (rep := Rp) (rep2 := Rp) (Q := Q) a h fun J B' H' S' w y g' a1 r1 f1 => ?_
    cases y with
    | ref b =>
      dsimp only at f1
      by_cases hC : b = C
      · rw [if_pos hC] at f1
        subst hC
        refine ⟨r1, ?_⟩
        have hn' := hn z S'
        cases q : ca z S' with
        | ok xs S2 =>
          refine ⟨H0, J, B', z, S', a1, ?_⟩
          rw [q] at f1 ⊢
          exact fun J2 B2 H2 vs g2 st2 r2 => call_sp (by rw [r2.len]; exact hn' xs S2 q) (a1.gr g2 st2) r2 (f1.gr g2) fun _ _ _ h => h
        | exc x S2 =>
          refine ⟨H0, J, B', z, S', a1, ?_⟩
          rw [q] at f1 ⊢
          exact f1
        | bad => rw [q] at f1; exact f1.elim
      · rw [if_neg hC] at f1; exact f1.elim
    | _ => exact f1.elim
  · subst e1
    obtain rfl : u = Value.ref C := r1
    obtain ⟨rest, hrec⟩ := c.rc
    refine PySem.W.method_cls I1.kIn r.ga (PySem.W.cls_bind I1.kIn r.rd c.at_ (wpAny_call (PySem.W.sm_get (s := { s1 with toks := s1.toks + 1 }) I1.kIn hrec (PySem.W.handed_on rfl ?_))))
    have I2 := I1.tok (s1.toks + 1)
    refine PySem.W.callWith_K (h₀ := X.base) (first := []) I2.ok.mod.kin c.kp (thn (ha.run pos pins _ σ H1 _ I2 q1) fun us s2 ⟨vs, H2, I3, rv, q2⟩ => ⟨I3.kIn, ?_⟩) hst hpl
    exact run_fnS F hr hb (passAt tk σ) I3 rv q2
end

/-! ### fresh lists -/
/-- what a list that has just been made gives: nobody else knows it -/
def rdF (T : Pm) (W : WX) (c : CE) : TE := fun s H Q => ∃ H0 I B z S, At T H0 I B H s z S ∧ match c z S with
  | .ok (.lst xs) S' => ∀ J B' H' p vs, Gr I B H J B' H' → Sto T.tabs J B' H' S' → H' p = none → Rps J B' vs xs → Q (.ref p) (upd H' p (.lst vs))
  | .exc e S' => ∀ J B' H' c dd, Gr I B H J B' H' → Sto T.tabs J B' H' S' → RpX J B' c dd e → W c dd s H'
  | _ => False
theorem bindF {α β : Type} {rep : List Addr → Hp → β → α → Prop} {s : L2.St} {I : List Addr} {B H H0 : Hp} {z : Sl} {S : Store} {ca : C α} {f : α → Store → R D} {P : β → Hp → Prop} {Q : VK} (at_ : At T H0 I B H s z S)
    (h : match (ca z S).bind f with
      | .ok (.lst xs) S' => ∀ J B' H' p vs, Gr I B H J B' H' → Sto T.tabs J B' H' S' → H' p = none → Rps J B' vs xs → Q (.ref p) (upd H' p (.lst vs))
      | .exc e S' => ∀ J B' H' c dd, Gr I B H J B' H' → Sto T.tabs J B' H' S' → RpX J B' c dd e → W c dd s H'
      | _ => False)
    (k : ∀ J B' H' S' v x, Gr I B H J B' H' → At T H0 J B' H' s z S' → rep J B' v x → (match f x S' with
      | .ok (.lst xs) S2 => ∀ J2 B2 H2 p vs, Gr J B' H' J2 B2 H2 → Sto T.tabs J2 B2 H2 S2 → H2 p = none → Rps J2 B2 vs xs → Q (.ref p) (upd H2 p (.lst vs))
      | .exc e S2 => ∀ J2 B2 H2 c dd, Gr J B' H' J2 B2 H2 → Sto T.tabs J2 B2 H2 S2 → RpX J2 B2 c dd e → W c dd s H2
      | _ => False) → P v H') : rd T rep W ca s H P := by
  refine ⟨H0, I, B, z, S, at_, ?_⟩
  cases e : ca z S with
  | ok x S' =>
    rw [e] at h
    intro J B' H' v g st r
    refine k J B' H' S' v x g (at_.gr g st) r ?_
    simp only [R.bind] at h
    revert h
    cases f x S' with
    | ok d S2 =>
      cases d with
      | lst xs => exact fun h J2 B2 H2 p vs g2 => h J2 B2 H2 p vs (g.trans g2)
      | _ => exact fun h => h
    | exc e S2 => exact fun h J2 B2 H2 c dd g2 => h J2 B2 H2 c dd (g.trans g2)
    | bad => exact fun h => h
  | exc x S' => rw [e] at h; exact h
  | bad => rw [e] at h; exact h
section
variable {e : Expr} {es : List Expr} {ca : CA} {pos : Pos}
theorem f_lst (h : PA X es (rdA T W ca)) : PE X (.List es pos) (rdF T W (cLst ca)) := by
  refine pe_imp (pe_lst h) ?_
  rintro s H Q ⟨H0, I, B, z, S, a, h⟩
  refine bindF (rep := Rps) (Q := Q) a h fun J B' H' S' v x g a1 r1 f1 => ?_
  by_cases hl : x.length ≤ 16777216
  · rw [if_pos hl] at f1
    exact ⟨by rw [r1.len]; exact line_le hl, fun p hp => f1 J B' H' p v (Gr.refl _ _ _) a1.st hp r1⟩
  · rw [if_neg hl] at f1; exact f1.elim
theorem f_list {p : Pos} (hg : Gl X "list") (hm : X.mg "list" = none) (ha : PA X (e :: es) (rdA T W ca)) (he : starEach (e :: es) X.env = (false, eval e X.env) :: starEach es X.env := by rfl) (hpl : (backTo pos (starEach es X.env)).any (·.1) = false := by rfl) (hK : X.K = TheK.K := by rfl) :
    PE X (.Call (.Name "list" p) (e :: es) [] pos) (rdF T W (cApp bList ca)) := by
  refine pe_imp (pe_callTy call_list_of hg hm (by decide +kernel) ha (by decide) (by decide) he hpl) ?_
  rintro s H Q ⟨H0, I, B, z, S, a, h⟩
  refine bindF (rep := Rps) (Q := Q) a h fun J B' H' S' v x g a1 r1 f1 => ?_
  unfold bList at f1
  match x, v, r1, f1 with
  | [x], v, r1, f1 =>
    obtain ⟨w, rfl, rv⟩ := r1.one
    cases q : itemsOf S' x with
    | none => simp only [q] at f1
    | some ys =>
      simp only [q] at f1
      obtain ⟨b, ws, rfl, hb, hl, hr⟩ := items_ty hK a1.st rv q
      exact ⟨b, ws, rfl, hb, fun p hp => f1 J B' H' p ws (Gr.refl _ _ _) a1.st hp hr⟩
  | [], _, _, f1 => exact f1.elim
  | _ :: _ :: _, _, _, f1 => exact f1.elim
variable {I0 : List Addr} {B0 H0 : Hp} {ce : CE}
/-- how a statement's wish is one about a fresh list -/
theorem sdoF {s : L2.St} {I : List Addr} {B H : Hp} {z : Sl} {S : Store} {En : Ends} {f : List D → Store → O} {Q : VK} (g0 : Gr I0 B0 H0 I B H) (a : At T H0 I B H s z S)
    (h : FinS T I0 B0 H0 W I B En (oDo (ce z S) z fun d S' => match d with | .lst xs => f xs S' | _ => .bad))
    (k : ∀ J B' H' S' p vs xs, Gr I0 B0 H0 J B' H' → At T H0 J B' H' s z S' → H' p = none → Rps J B' vs xs → FinS T I0 B0 H0 W J B' En (f xs S') → Q (.ref p) (upd H' p (.lst vs))) : rdF T W ce s H Q := by
  refine ⟨H0, I, B, z, S, a, ?_⟩
  cases e : ce z S with
  | ok x S' =>
    rw [e] at h
    cases x with
    | lst xs => exact fun J B' H' p vs g st hp r => k J B' H' S' p vs xs (g0.trans g) (a.gr g st) hp r (h.gb g.gb)
    | _ => exact h.elim
  | exc x S' =>
    rw [e] at h
    exact fun J B' H' c dd g st r => h J B' H' s c dd (g0.trans g) g.gb (a.gr g st) r
  | bad => rw [e] at h; exact h.elim
theorem s_setL {i : Nat} {x : Str} {pos' : Pos} (hN : X.N.Nodup) (hi : X.N[i]? = some x) (hx : Loc X.env.scope x) (he : PE X e (rdF T W ce)) (hs : swapsWith e (some (.Name x pos')) pos.line X.env = pure false := by rfl) (hf : X.fn x = true ∨ X.env.scope.names.lookup x = some .local := by first | exact .inl rfl | exact .inr rfl | assumption) :
    PS X (.Assign [.Name x pos'] e pos) (rdS T I0 B0 H0 W (sSetL i ce)) := by
  refine ps_imp (ps_set hN hi hx he hs hf) ?_
  rintro D s H ⟨I, B, z, S, g, a, f⟩
  refine sdoF g a f fun J B' H' S' p vs xs g0 a1 hp r f1 => ?_
  have h0 := g0.dom p (.of hp)
  have a2 := a1.newOwn (y := .l xs) i h0 hp (o := .lst vs) ⟨p, vs, rfl, upd_same, r, h0, a1.st.noB hp, a1.st.notIn hp⟩
  exact f1 J B' _ _ (gr_own g0 h0) GB.rfl a2
theorem s_setP {i : Nat} {x : Str} {pos' : Pos} (hN : X.N.Nodup) (hi : X.N[i]? = some x) (hx : Loc X.env.scope x) (he : PE X e (rdF T W ce)) (hs : swapsWith e (some (.Name x pos')) pos.line X.env = pure false := by rfl) (hf : X.fn x = true ∨ X.env.scope.names.lookup x = some .local := by first | exact .inl rfl | exact .inr rfl | assumption) :
    PS X (.Assign [.Name x pos'] e pos) (rdS T I0 B0 H0 W (sSetP i ce)) := by
  refine ps_imp (ps_set hN hi hx he hs hf) ?_
  rintro D s H ⟨I, B, z, S, g, a, f⟩
  refine sdoF g a f fun J B' H' S' p vs xs g0 a1 hp r f1 => ?_
  have a2 := a1.grow (u := .lst vs) (m := .lst xs) hp ⟨vs, rfl, r.mono ⟨[p], rfl⟩ (xs := xs) fun _ _ h => h⟩
  have r2 : Rp (J ++ [p]) B' (.ref p) (.ptr S'.length) := ⟨p, by rw [← a1.st.len]; simp, rfl⟩
  exact f1 _ B' _ _ (g0.trans (gr_grow a1.st hp)) (gr_grow (u := .lst vs) a1.st hp).gb (a2.setD i r2)
/-- the own list in slot i, behind a piece -/
theorem ownL {s : L2.St} {I : List Addr} {B H : Hp} {z : Sl} {S : Store} {i : Nat} {xs : List D} (a : At T H0 I B H s z S) (e : z[i]? = some (.l xs)) : ∃ b vs, s[i]? = some (some (V.ref b)) ∧ H b = some (.lst vs) ∧ Rps I B vs xs ∧ Own H0 I B b := by
  obtain ⟨o, h1, b, vs, rfl, h2, h3, h4⟩ := a.sl.get e
  exact ⟨b, vs, h1, h2, h3, h4⟩
theorem listTy {K : PySem.W.Frag} {H : Hp} {b : Addr} {vs : List V} (h : H b = some (.lst vs)) : tyV K "list" (.ref b) H := .inl ⟨rfl, vs, SqL.of h⟩
theorem s_append {i : Nat} {t : Expr} {apos spos : Pos} (ho : PE X t (tVar i)) (ha : PE X e (rdE T W ce))
    (hm : PE X t (tVar i) → PA X [e] (tCons (rdE T W ce) tNil) → PE X (.Call (.Attribute t "append" apos) [e] [] pos) (tBM X.K "list" rAppend (tVar i) (tCons (rdE T W ce) tNil)) := by
      exact fun h1 h2 => pe_bm PySem.F.plainAttrs_list PySem.F.slot_list_append PySem.F.type_list_append mt_append h1 h2)
    (hs : swapsWith (.Call (.Attribute t "append" apos) [e] [] pos) none spos.line X.env = pure false := by rfl)
    (hst : starEach (e :: []) X.env = (false, eval e X.env) :: starEach [] X.env := by rfl) :
    PS X (.Expr (.Call (.Attribute t "append" apos) [e] [] pos) spos) (rdS T I0 B0 H0 W (sAppend i ce)) := by
  refine ps_imp (ps_expr (hm ho (pa_cons ha pa_nil hst)) hs) ?_
  rintro D s H ⟨I, B, z, S, g, a, f⟩
  unfold sAppend at f
  split at f
  · rename_i xs e1
    obtain ⟨b, vs, h1, h2, h3, h4⟩ := ownL a e1
    refine ⟨.ref b, h1, listTy h2, ?_⟩
    refine sdo (rep := Rp) g a f fun J B' H' S' v x g0 g1 a1 r1 f1 => ?_
    obtain ⟨b', vs', h1', h2', h3', h4'⟩ := ownL a1 e1
    rw [h1] at h1'; cases h1'
    by_cases hl : xs.length < 16777216
    · rw [if_pos hl] at f1
      have r2 : Rps J B' (vs' ++ [v]) (xs ++ [x]) := h3'.append ⟨r1, trivial⟩
      have a2 := a1.setOwn (u := .lst (vs' ++ [v])) (y' := .l (xs ++ [x])) i h1 e1 rfl h2' (fun ps z => by cases z) (fun q z => by cases z) h4' ⟨b, _, rfl, upd_same, r2, h4'⟩
      exact ⟨b, vs', v, rfl, rfl, h2', by rw [h3'.len]; exact line_lt hl, f1 J B' _ _ (gr_own g0 h4'.1) GB.rfl a2⟩
    · rw [if_neg hl] at f1; exact f1.elim
  · exact f.elim
end
end CL
set_option Elab.async false
set_option linter.all false
set_option maxRecDepth 100000
/-! CL10: lists and objects of the store changed; loops. -/
namespace CL
open PySem PySem.Spec PyProof.Rows L2
variable [TheK]
variable {L : Tl} {T : Pm} {X : Cx} {W : WX}
section
variable {e : Expr} {es : List Expr} {ca : CA} {pos : Pos} {I0 : List Addr} {B0 H0 : Hp} {ce co ck : CE}
theorem s_extend {i : Nat} {t : Expr} {apos spos : Pos} (ho : PE X t (tVar i)) (ha : PE X e (rdE T W ce))
    (hm : PE X t (tVar i) → PA X [e] (tCons (rdE T W ce) tNil) → PE X (.Call (.Attribute t "extend" apos) [e] [] pos) (tBM X.K "list" rExtend (tVar i) (tCons (rdE T W ce) tNil)) := by
      exact fun h1 h2 => pe_bm PySem.F.plainAttrs_list PySem.F.slot_list_extend PySem.F.type_list_extend mt_extend h1 h2)
    (hs : swapsWith (.Call (.Attribute t "extend" apos) [e] [] pos) none spos.line X.env = pure false := by rfl)
    (hst : starEach (e :: []) X.env = (false, eval e X.env) :: starEach [] X.env := by rfl) :
    PS X (.Expr (.Call (.Attribute t "extend" apos) [e] [] pos) spos) (rdS T I0 B0 H0 W (sExtend i ce)) := by
  refine ps_imp (ps_expr (hm ho (pa_cons ha pa_nil hst)) hs) ?_
  rintro D s H ⟨I, B, z, S, g, a, f⟩
  unfold sExtend at f
  split at f
  · rename_i xs e1
    obtain ⟨b, vs, h1, h2, h3, h4⟩ := ownL a e1
    refine ⟨.ref b, h1, listTy h2, ?_⟩
    refine sdo (rep := Rp) g a f fun J B' H' S' v x g0 g1 a1 r1 f1 => ?_
    obtain ⟨b', vs', h1', h2', h3', h4'⟩ := ownL a1 e1
    rw [h1] at h1'; cases h1'
    cases x with
    | lst ys =>
      dsimp only at f1
      by_cases hl : xs.length + ys.length ≤ 16777216
      · rw [if_pos hl] at f1
        obtain ⟨c, ws, rfl, hc, _, rw'⟩ := Rp.lst a1.st r1
        have r2 : Rps J B' (vs' ++ ws) (xs ++ ys) := h3'.append rw'
        have a2 := a1.setOwn (u := .lst (vs' ++ ws)) (y' := .l (xs ++ ys)) i h1 e1 rfl h2' (fun ps z => by cases z) (fun q z => by cases z) h4' ⟨b, _, rfl, upd_same, r2, h4'⟩
        exact ⟨b, c, vs', ws, rfl, rfl, h2', hc, by rw [h3'.len, rw'.len]; exact line_le hl, f1 J B' _ _ (gr_own g0 h4'.1) GB.rfl a2⟩
      · rw [if_neg hl] at f1; exact f1.elim
    | _ => exact f1.elim
  · exact f.elim
/-- o.append(e), o's list in the store -/
theorem e_appendP {t : Expr} {apos : Pos} (ho : PE X t (rdE T W co)) (ha : PE X e (rdE T W ce))
    (hm : PE X t (rdE T W co) → PA X [e] (tCons (rdE T W ce) tNil) → PE X (.Call (.Attribute t "append" apos) [e] [] pos) (tBM X.K "list" rAppend (rdE T W co) (tCons (rdE T W ce) tNil)) := by
      exact fun h1 h2 => pe_bm PySem.F.plainAttrs_list PySem.F.slot_list_append PySem.F.type_list_append mt_append h1 h2)
    (hst : starEach (e :: []) X.env = (false, eval e X.env) :: starEach [] X.env := by rfl) :
    PE X (.Call (.Attribute t "append" apos) [e] [] pos) (rdE T W (cAppendP co ce)) := by
  refine pe_imp (hm ho (pa_cons ha pa_nil hst)) ?_
  rintro s H Q ⟨H0, I, B, z, S, a, h⟩
  unfold cAppendP at h
  refine bind (rep := Rp) (rep2 := Rp) (Q := Q) a h fun J B' H' S' v x g a1 r1 f1 => ?_
  cases x with
  | ptr j =>
    dsimp only at f1
    cases q : S'[j]? with
    | none => simp only [q] at f1; exact f1.elim
    | some m =>
      cases m with
      | lst ys =>
        simp only [q] at f1
        obtain ⟨b, o, rfl, hI, hb, vs, rfl, rv⟩ := Rp.ptr a1.st r1 q
        refine ⟨listTy hb, ?_⟩
        refine bind (rep := Rp) (rep2 := Rp) (Q := Q) a1 f1 fun J2 B2 H2 S2 u y g2 a2 r2 f2 => ?_
        cases q2 : S2[j]? with
        | none => simp only [q2] at f2; exact f2.elim
        | some m =>
          cases m with
          | lst xs =>
            simp only [q2] at f2
            by_cases hl : xs.length < 16777216
            · rw [if_pos hl] at f2
              obtain ⟨b', o', e', hI', hb', vs', rfl, rv'⟩ := Rp.ptr a2.st (r1.gr g2) q2
              cases e'
              have a3 := a2.write (u := .lst (vs' ++ [u])) (m := .lst (xs ++ [y])) hI' hb' (fun ps z => by cases z) (fun q z => by cases z) ⟨_, rfl, rv'.append ⟨r2, trivial⟩⟩
              exact ⟨b, vs', u, rfl, rfl, hb', by rw [rv'.len]; exact line_lt hl, f2 J2 B2 _ .non (gr_write (List.mem_of_getElem? hI') (fun ps z => by cases z)) a3.st rfl⟩
            · rw [if_neg hl] at f2; exact f2.elim
          | ins _ _ _ => simp only [q2] at f2; exact f2.elim
          | dct _ _ => simp only [q2] at f2; exact f2.elim
      | ins _ _ _ => simp only [q] at f1; exact f1.elim
      | dct _ _ => simp only [q] at f1; exact f1.elim
  | _ => exact f1.elim
/-! ### attributes of objects of the store -/
theorem putF_zip {f : Str} {v : V} : ∀ {ns : List Str} {vs : List V}, ns.length = vs.length → putF f v (ns.zip vs) = (putN f v ns vs).1.zip (putN f v ns vs).2
  | [], [], _ => rfl
  | n :: ns, v' :: vs, h => by
    have ih := putF_zip (f := f) (v := v) (ns := ns) (vs := vs) (by simpa using h)
    simp only [List.zip_cons_cons, putF, putN]
    by_cases e : n = f
    · subst e; simp
    · rw [if_neg e, if_neg e, ih]; rfl
  | [], _ :: _, h => by cases h
  | _ :: _, [], h => by cases h
theorem putN_rps {I : List Addr} {B : Hp} {f : Str} {v : V} {d : D} (r : Rp I B v d) : ∀ {ns : List Str} {vs : List V} {xs : List D}, ns.length = vs.length → Rps I B vs xs →
    (putN f v ns vs).1 = (putN f d ns xs).1 ∧ (putN f v ns vs).1.length = (putN f v ns vs).2.length ∧ Rps I B (putN f v ns vs).2 (putN f d ns xs).2
  | [], [], [], _, _ => ⟨rfl, rfl, r, trivial⟩
  | n :: ns, v' :: vs, x :: xs, h, rs => by
    obtain ⟨h1, h2, h3⟩ := putN_rps (f := f) r (ns := ns) (vs := vs) (xs := xs) (by simpa using h) rs.2
    simp only [putN]
    by_cases e : n = f
    · rw [if_pos e, if_pos e]
      exact ⟨rfl, by simpa using h, r, rs.2⟩
    · rw [if_neg e, if_neg e]
      exact ⟨by simp [h1], by simp [h2], rs.1, h3⟩
  | [], [], _ :: _, _, h => h.elim
  | _ :: _, _ :: _, [], _, h => h.elim
  | [], _ :: _, _, h, _ => by cases h
  | _ :: _, [], _, h, _ => by cases h
theorem s_field {C : Addr} {fl : Str} {o value : Expr} {pos' : Pos} (ha : PE X o (rdE T W co)) (hv : PE X value (rdE T W ce)) (c : Cls X.K C) (n : NoAttr X.K C fl) (hs : swapsWith value (some (.Attribute o fl pos')) pos.line X.env = pure false := by rfl) :
    PS X (.Assign [.Attribute o fl pos'] value pos) (rdS T I0 B0 H0 W (sField C fl co ce)) := by
  refine ps_imp (ps_fld ha hv hs) ?_
  rintro D s H ⟨I, B, z, S, g, a, f⟩
  unfold sField at f
  refine sdo (rep := Rp) g a f fun J B' H' S' v x g0 g1 a1 r1 f1 => ?_
  refine sdo (rep := Rp) g0 a1 f1 fun J2 B2 H2 S2 u y g02 g2 a2 r2 f2 => ?_
  cases y with
  | ptr j =>
    dsimp only at f2
    cases q : S2[j]? with
    | none => simp only [q] at f2; exact f2.elim
    | some m =>
      cases m with
      | ins C' ns xs =>
        simp only [q] at f2
        by_cases hC : C' = C ∧ ns.length < 1000
        · rw [if_pos hC] at f2
          obtain ⟨rfl, hl⟩ := hC
          obtain ⟨b, o', rfl, hI, hb, dx, vs, rfl, hlen, rv⟩ := Rp.ptr a2.st r2 q
          obtain ⟨p1, p2, p3⟩ := putN_rps (f := fl) (r1.gr g2) hlen rv
          have a3 := a2.write (u := .ins C' dx (putF fl v (ns.zip vs))) (m := .ins C' (putN fl x ns xs).1 (putN fl x ns xs).2) hI hb (fun ps z => by cases z) (fun q z => by cases z)
            ⟨dx, (putN fl v ns vs).2, by rw [putF_zip hlen, p1], by rw [← p1]; exact p2, p3⟩
          exact ⟨b, C', dx, _, rfl, hb, c, n, by simp [List.length_zip]; omega, f2 J2 B2 _ s (g02.trans (gr_write (List.mem_of_getElem? hI) (fun ps z => by cases z))) GB.rfl a3⟩
        · rw [if_neg hC] at f2; exact f2.elim
      | lst _ => simp only [q] at f2; exact f2.elim
      | dct _ _ => simp only [q] at f2; exact f2.elim
  | _ => exact f2.elim
/-- o[k] = v, o's list in the store -/
theorem s_item {o i value : Expr} {tpos : Pos} {cv : CE} (hv : PE X value (rdE T W cv)) (ho : PE X o (rdE T W co)) (hi : PE X i (rdE T W ck))
    (ha : ∀ v, assign (.Subscript o i tpos) X.env v = (do
      let ov ← holding [v] (eval o X.env)
      let iv ← holding [v, ov] (eval i X.env)
      standAt tpos
      holding [v, ov, iv] (setItem ov iv v)
      release [v, ov, iv] []) := by intro _; rfl)
    (hs : swapsWithSole [.Subscript o i tpos] value pos.line X.env = pure false := by rfl) (hw : swappedStores [.Subscript o i tpos] value X.env = pure none := by rfl)
    (h1 : (assignEach [.Subscript o i tpos] X.env).map (·.2) = [assign (.Subscript o i tpos) X.env] := by rfl) : PS X (.Assign [.Subscript o i tpos] value pos) (rdS T I0 B0 H0 W (sItem co ck cv)) := by
  refine ps_imp (ps_asg hv (pg_sub ho hi set_list ha) hs hw h1) ?_
  rintro D s H ⟨I, B, z, S, g, a, f⟩
  unfold sItem at f
  refine sdo (rep := Rp) g a f fun J B' H' S' v x g0 g1 a1 r1 f1 => ?_
  refine sdo (rep := Rp) g0 a1 f1 fun J2 B2 H2 S2 u y g02 g2 a2 r2 f2 => ?_
  refine sdo (rep := Rp) g02 a2 f2 fun J3 B3 H3 S3 w n g03 g3 a3 r3 f3 => ?_
  cases y with
  | ptr j =>
    cases n with
    | int n =>
      dsimp only at f3
      cases q : S3[j]? with
      | none => simp only [q] at f3; exact f3.elim
      | some m =>
        cases m with
        | lst xs =>
          simp only [q] at f3
          cases q2 : L2.ixN xs.length n with
          | none => simp only [q2] at f3; exact f3.elim
          | some t =>
            simp only [q2] at f3
            obtain ⟨b, o', rfl, hI, hb, vs, rfl, rv⟩ := Rp.ptr a3.st (r2.gr g3) q
            cases r3
            have a4 := a3.write (u := .lst (vs.set t v)) (m := .lst (xs.set t x)) hI hb (fun ps z => by cases z) (fun q z => by cases z) ⟨_, rfl, Rps.set ((r1.gr g2).gr g3) t rv⟩
            exact ⟨b, vs, n, t, rfl, rfl, hb, by rw [rv.len]; exact q2, f3 J3 B3 _ s (g03.trans (gr_write (List.mem_of_getElem? hI) (fun ps z => by cases z))) GB.rfl a4⟩
        | ins _ _ _ => simp only [q] at f3; exact f3.elim
        | dct _ _ => simp only [q] at f3; exact f3.elim
    | _ => exact f3.elim
  | _ => exact f3.elim
end
end CL
set_option Elab.async false
set_option linter.all false
set_option maxRecDepth 100000
/-! CL11: what a loop walks; for; while. -/
namespace CL
open PySem PySem.Spec PyProof.Rows L2
variable [TheK]
variable {L : Tl} {T : Pm} {X : Cx} {W : WX}

variable (L) in
/-- J walks the data ds -/
structure Wk (J : It) (I : List Addr) (B : Hp) (ds : List D) : Prop where
  goes : ∀ {I' B' H S} (i : Nat), GB I B I' B' → Sto L I' B' H S → i < ds.length → J.go i H
  stops : ∀ {I' B' H S}, GB I B I' B' → Sto L I' B' H S → J.stop ds.length H
  yields : ∀ {I' B' H S} (i : Nat) {x : V} {H' : Hp} {d : D}, GB I B I' B' → Sto L I' B' H S → J.yld i H x H' → ds[i]? = some d → ∃ I2 B2, Gr I' B' H I2 B2 H' ∧ Sto L I2 B2 H' S ∧ Rp I2 B2 x d
theorem Wk.gb {J : It} {I I' : List Addr} {B B' : Hp} {ds : List D} (w : Wk L J I B ds) (g : GB I B I' B') : Wk L J I' B' ds :=
  ⟨fun i g' st h => w.goes i (g.trans g') st h, fun g' st => w.stops (g.trans g') st, fun i _ _ _ g' st y e => w.yields i (g.trans g') st y e⟩
theorem Rps.at_ {I : List Addr} {B : Hp} {vs : List V} {xs : List D} (r : Rps I B vs xs) {i : Nat} {v : V} {d : D} (e : vs[i]? = some v) (e2 : xs[i]? = some d) : Rp I B v d := by
  obtain ⟨u, h1, h2⟩ := r.get e2
  rw [e] at h1; cases h1; exact h2
/-- what never changes, walked as it stands -/
theorem Wk.still {J : It} {n : Nat} {G : Hp → Prop} {I : List Addr} {B : Hp} {ds : List D} {vs : List V} (w : Walk J n G (YAt vs)) (hn : n = ds.length) (r : Rps I B vs ds) (hG : ∀ {I' B' H S}, GB I B I' B' → Sto L I' B' H S → G H) : Wk L J I B ds := by
  subst hn
  refine ⟨fun i g st h => w.goes i _ h (hG g st), fun g st => w.stops _ (hG g st), fun {I' B' H S} i {x H' d} g st y e => ?_⟩
  obtain ⟨e1, e2⟩ := w.yields i _ _ _ (List.getElem?_eq_some_iff.mp e).1 (hG g st) y
  subst e1
  exact ⟨I', B', Gr.refl _ _ _, st, (r.mono g.sub g.ext (xs := ds)).at_ e2 e⟩
theorem Wk.tup {K : PySem.W.Frag} {a : Addr} {I : List Addr} {B : Hp} {vs : List V} {ds : List D} (h : B a = some (.tup vs)) (r : Rps I B vs ds) : Wk L (Itt K a) I B ds :=
  Wk.still walk_tup r.len r fun g st => SqT.of (st.sub _ _ (g.ext _ _ h))
theorem Wk.lst {K : PySem.W.Frag} {a : Addr} {I : List Addr} {B : Hp} {vs : List V} {ds : List D} (h : Rd B a (.lst vs)) (r : Rps I B vs ds) : Wk L (Itl K a) I B ds :=
  Wk.still walk_list r.len r fun g st => .inl (st.rdL (h.elim (fun z => .inl (g.ext _ _ z)) fun ⟨o, z⟩ => .inr ⟨o, g.ext _ _ z⟩))
theorem Wk.scr {a : Addr} {I : List Addr} {B : Hp} {ns : List Int} (h : Rd B a (.lst (ns.map V.int)) ∨ KLst a ns) : Wk L (Itl TheK.K a) I B (ns.map D.int) := by
  refine Wk.still (vs := ns.map V.int) walk_list (by simp) (Rps.ints _) fun g st => ?_
  exact st.scr (h.imp (fun h => h.elim (fun z => .inl (g.ext _ _ z)) fun ⟨o, z⟩ => .inr ⟨o, g.ext _ _ z⟩) id)
theorem Wk.range {lo : Int} {n : Nat} {I : List Addr} {B : Hp} : Wk L (Itr lo n) I B ((List.range n).map fun (k : Nat) => D.int (lo + (k : Int))) := by
  refine ⟨fun i g st h => (walk_range (lo := lo) (n := n)).goes i _ (by simpa using h) trivial, fun g st => ?_, fun {I' B' H S} i {x H' d} g st y e => ?_⟩
  · simp only [List.length_map, List.length_range]
    exact (walk_range (lo := lo) (n := n)).stops _ trivial
  · have hi : i < n := by simpa using (List.getElem?_eq_some_iff.mp e).1
    obtain ⟨e1, e2⟩ := (walk_range (lo := lo) (n := n)).yields i _ _ _ hi trivial y
    subst e1 e2
    have e3 : d = .int (lo + (i : Int)) := by
      rw [List.getElem?_map, List.getElem?_range hi] at e
      cases e; rfl
    subst e3
    exact ⟨I', B', Gr.refl _ _ _, st, rfl⟩
/-- new pairs of the items of two lists -/
theorem Wk.pairs {J : It} {n : Nat} {G : Hp → Prop} {I : List Addr} {B : Hp} {ds : List D} {xs ys : Nat → Option V} (w : Walk J n G (YPair xs ys)) (hn : n = ds.length)
    (r : ∀ i x y, xs i = some x → ys i = some y → i < n → ∃ d1 d2, ds[i]? = some (.tup [d1, d2]) ∧ Rp I B x d1 ∧ Rp I B y d2) (hG : ∀ {I' B' H S}, GB I B I' B' → Sto L I' B' H S → G H) : Wk L J I B ds := by
  subst hn
  refine ⟨fun i g st h => w.goes i _ h (hG g st), fun g st => w.stops _ (hG g st), fun {I' B' H S} i {v H' d} g st y e => ?_⟩
  have hi := (List.getElem?_eq_some_iff.mp e).1
  obtain ⟨t, x, z, rfl, ht, rfl, e1, e2⟩ := w.yields i _ _ _ hi (hG g st) y
  obtain ⟨d1, d2, q, r1, r2⟩ := r i x z e1 e2 hi
  rw [e] at q; cases q
  refine ⟨I', upd B' t (.tup [x, z]), gr_new ht st.sub, st.new ht (fun _ z => by cases z), t, [x, z], rfl, upd_same, ?_⟩
  exact Rps.new (vs := [x, z]) (xs := [d1, d2]) ⟨r1.mono g.sub g.ext, r2.mono g.sub g.ext, trivial⟩ st ht

/-- what a loop's source gives -/
def rdI (T : Pm) (W : WX) (ca : CA) : TI := fun s H R => ∃ H0 I B z S, At T H0 I B H s z S ∧ match ca z S with
  | .ok ds S' => ∀ J B' H' Jt, Gr I B H J B' H' → Sto T.tabs J B' H' S' → Wk T.tabs Jt J B' ds → R Jt H'
  | .exc e S' => ∀ J B' H' c dd, Gr I B H J B' H' → Sto T.tabs J B' H' S' → RpX J B' c dd e → W c dd s H'
  | .bad => False
theorem pi_imp {tg e : Expr} {t t' : TI} (h : PI X tg e t) (k : ∀ s H R, t' s H R → t s H R) : PI X tg e t' := ⟨fun pins s σ H R I hq => h.run pins s σ H R I (k _ _ _ hq)⟩
section
variable {α β : Type} {rep : List Addr → Hp → β → α → Prop} {s : L2.St} {I : List Addr} {B H H0 : Hp} {z : Sl} {S : Store}
theorem bindI {ca : C α} {f : α → Store → CL.R (List D)} {R : It → Hp → Prop} {P : β → Hp → Prop} (at_ : At T H0 I B H s z S)
    (h : match (ca z S).bind f with
      | .ok ds S' => ∀ J B' H' Jt, Gr I B H J B' H' → Sto T.tabs J B' H' S' → Wk T.tabs Jt J B' ds → R Jt H'
      | .exc e S' => ∀ J B' H' c dd, Gr I B H J B' H' → Sto T.tabs J B' H' S' → RpX J B' c dd e → W c dd s H'
      | .bad => False)
    (k : ∀ J B' H' S' v x, Gr I B H J B' H' → At T H0 J B' H' s z S' → rep J B' v x → (match f x S' with
      | .ok ds S2 => ∀ J2 B2 H2 Jt, Gr J B' H' J2 B2 H2 → Sto T.tabs J2 B2 H2 S2 → Wk T.tabs Jt J2 B2 ds → R Jt H2
      | .exc e S2 => ∀ J2 B2 H2 c dd, Gr J B' H' J2 B2 H2 → Sto T.tabs J2 B2 H2 S2 → RpX J2 B2 c dd e → W c dd s H2
      | .bad => False) → P v H') : rd T rep W ca s H P := by
  refine ⟨H0, I, B, z, S, at_, ?_⟩
  cases e : ca z S with
  | ok x S' =>
    rw [e] at h
    intro J B' H' v g st r
    refine k J B' H' S' v x g (at_.gr g st) r ?_
    simp only [CL.R.bind] at h
    cases q : f x S' with
    | ok ds S2 => rw [q] at h; exact fun J2 B2 H2 Jt g2 => h J2 B2 H2 Jt (g.trans g2)
    | exc e S2 => rw [q] at h; exact fun J2 B2 H2 c dd g2 => h J2 B2 H2 c dd (g.trans g2)
    | bad => rw [q] at h; exact h
  | exc x S' => rw [e] at h; exact h
  | bad => rw [e] at h; exact h
end
section
variable {tg e a b : Expr} {ce ca cb : CE} {p pos : Pos}
def iSeqT (c : CE) : CA := fun z S => (c z S).bind fun d S' => match d with
  | .tup xs => .ok xs S'
  | _ => .bad
def iSeqL (c : CE) : CA := fun z S => (c z S).bind fun d S' => match d with
  | .lst xs => .ok xs S'
  | .scr ns => .ok (ns.map D.int) S'
  | _ => .bad
theorem i_tup (he : PE X e (rdE T W ce)) : PI X tg e (rdI T W (iSeqT ce)) := by
  refine pi_imp (pi_tup he) ?_
  rintro s H R ⟨H0, I, B, z, S, a, h⟩
  refine bindI (rep := Rp) a h fun J B' H' S' v x g a1 r1 f1 => ?_
  cases x with
  | tup xs =>
    obtain ⟨c, vs, rfl, hc, hb, rv⟩ := Rp.tup a1.st r1
    exact ⟨c, rfl, ⟨vs, SqT.of hc⟩, f1 J B' H' _ (Gr.refl _ _ _) a1.st (Wk.tup hb rv)⟩
  | _ => exact f1.elim
theorem i_lst (he : PE X e (rdE T W ce)) (hK : X.K = TheK.K := by rfl) : PI X tg e (rdI T W (iSeqL ce)) := by
  refine pi_imp (pi_list he) ?_
  rintro s H R ⟨H0, I, B, z, S, a, h⟩
  refine bindI (rep := Rp) a h fun J B' H' S' v x g a1 r1 f1 => ?_
  cases x with
  | lst xs =>
    obtain ⟨c, vs, rfl, hc, hb, rv⟩ := Rp.lst a1.st r1
    exact ⟨c, rfl, ⟨vs, SqL.of hc⟩, f1 J B' H' _ (Gr.refl _ _ _) a1.st (Wk.lst (.inl hb) rv)⟩
  | scr ns =>
    obtain ⟨c, rfl, hb⟩ := r1
    rw [hK]
    exact ⟨c, rfl, ⟨_, a1.st.scr hb⟩, f1 J B' H' _ (Gr.refl _ _ _) a1.st (Wk.scr hb)⟩
  | _ => exact f1.elim
theorem i_range1 (hg : Gl X "range") (hm : X.mg "range" = none) (ha : PE X a (rdE T W ca)) (hs : starEach [a] X.env = [(false, eval a X.env)] := by rfl) : PI X tg (.Call (.Name "range" p) [a] [] pos) (rdI T W (iRange1 ca)) := by
  refine pi_imp (pi_range1 hg hm (pa_cons ha pa_nil hs) hs) ?_
  rintro s H R ⟨H0, I, B, z, S, a, h⟩
  refine bindI (rep := Rp) a h fun J B' H' S' v x g a1 r1 f1 => ?_
  cases x with
  | int n =>
    dsimp only at f1
    by_cases hb0 : in62 n = true
    · rw [if_pos hb0] at f1
      have hb := in62_iff hb0
      cases r1
      exact ⟨n, rfl, hb.1, hb.2, f1 J B' H' _ (Gr.refl _ _ _) a1.st Wk.range⟩
    · rw [if_neg hb0] at f1; exact f1.elim
  | _ => exact f1.elim
theorem i_range2 (hg : Gl X "range") (hm : X.mg "range" = none) (ha : PE X a (rdE T W ca)) (hb : PE X b (rdE T W cb)) (hs : starEach [a, b] X.env = [(false, eval a X.env), (false, eval b X.env)] := by rfl) (hs2 : starEach [b] X.env = [(false, eval b X.env)] := by rfl) :
    PI X tg (.Call (.Name "range" p) [a, b] [] pos) (rdI T W (iRange2 ca cb)) := by
  refine pi_imp (pi_range2 hg hm (pa_cons ha (pa_cons hb pa_nil hs2) (by rw [hs, hs2])) hs hs2) ?_
  rintro s H R ⟨H0, I, B, z, S, a, h⟩
  refine bindI (rep := Rp) a h fun J B' H' S' v x g a1 r1 f1 => ?_
  refine bindI (rep := Rp) a1 f1 fun J2 B2 H2 S2 u y g2 a2 r2 f2 => ?_
  cases x with
  | int i =>
    cases y with
    | int j =>
      dsimp only at f2
      by_cases hb0 : (in62 i && in62 j) = true
      · rw [if_pos hb0] at f2
        have hb : (-(2 ^ 62) ≤ i ∧ i < 2 ^ 62) ∧ -(2 ^ 62) ≤ j ∧ j < 2 ^ 62 := ⟨in62_iff (Bool.and_eq_true_iff.mp hb0).1, in62_iff (Bool.and_eq_true_iff.mp hb0).2⟩
        cases r1; cases r2
        exact ⟨i, j, rfl, ⟨hb.1.1, hb.1.2, hb.2.1, hb.2.2⟩, f2 J2 B2 H2 _ (Gr.refl _ _ _) a2.st Wk.range⟩
      · rw [if_neg hb0] at f2; exact f2.elim
    | _ => exact f2.elim
  | _ => exact f2.elim
end

/-! ### for -/
section
variable {I0 : List Addr} {B0 H0 : Hp} {tg iter : Expr} {body : List Stmt} {ca : CA} {g : Tg} {cb : CS} {pos : Pos}
theorem s_for (hp : PassesOwn (model X.prog X.w) X.A X.env X.xe) (hc : X.calm = true) (hi : PI X tg iter (rdI T W ca)) (hg : PG X tg (rdG T H0 g)) (hb : PSs X body (rdS T I0 B0 H0 W cb))
    (hs : ∀ x, foldedSetIterable iter X.env x = pure x := by intro _; rfl) : PS X (.For tg iter body [] pos) (rdS T I0 B0 H0 W (sFor ca g cb)) := by
  refine ps_imp (ps_for hp hc hi hg hb hs) ?_
  rintro D s H ⟨I, B, z, S, g0, a, f⟩
  unfold sFor at f
  refine ⟨H0, I, B, z, S, a, ?_⟩
  cases e : ca z S with
  | bad => rw [e] at f; exact f.elim
  | exc x S' =>
    rw [e] at f
    exact fun J B' H' c dd g st r => f J B' H' s c dd (g0.trans g) g.gb (a.gr g st) r
  | ok ds S' =>
    rw [e] at f
    simp only [oDo] at f
    intro J1 B1 H1 Jt gr1 st1 wk
    refine ⟨fun i m s H => m = ds.length - i ∧ i ≤ ds.length ∧ ∃ I' B' z S, Gr I0 B0 H0 I' B' H ∧ GB J1 B1 I' B' ∧ At T H0 I' B' H s z S ∧ FinS T I0 B0 H0 W I' B' D (loop g cb (ds.drop i) z S),
      ⟨ds.length, by simp, Nat.zero_le _, J1, B1, z, S', g0.trans gr1, GB.rfl, a.gr gr1 st1, by simpa using f.gb gr1.gb⟩, ?_⟩
    rintro i m s H ⟨rfl, hi, I', B', z, S, g', gb, a', f'⟩
    by_cases hlt : i < ds.length
    · refine .inr ⟨wk.goes i gb a'.st hlt, fun s' H' => ∃ I' B' z S, Gr I0 B0 H0 I' B' H' ∧ GB J1 B1 I' B' ∧ At T H0 I' B' H' s' z S ∧ FinS T I0 B0 H0 W I' B' D (loop g cb (ds.drop (i + 1)) z S),
        fun s' H' p' => ⟨ds.length - (i + 1), by omega, rfl, hlt, p'⟩, fun x H' y => ?_⟩
      obtain ⟨I2, B2, g2, st2, r2⟩ := wk.yields i gb a'.st y (List.getElem?_eq_getElem hlt)
      have a2 := a'.gr g2 st2
      refine ⟨I2, B2, z, S, ds[i], a2, r2, ?_⟩
      rw [List.drop_eq_getElem_cons hlt, loop] at f'
      cases q : g ds[i] z with
      | none => rw [q] at f'; exact f'.elim
      | some z1 =>
        rw [q] at f'
        dsimp only at f' ⊢
        intro s' as'
        refine ⟨I2, B2, z1, S, g'.trans g2, as', ?_⟩
        have f2 := FinS.gb f' g2.gb
        cases q2 : cb z1 S with
        | nx z2 S2 =>
          rw [q2] at f2
          exact fun J B' H' s g3 gb3 a3 => ⟨J, B', z2, S2, g3, (gb.trans g2.gb).trans gb3, a3, FinS.gb f2 gb3⟩
        | ct z2 S2 =>
          rw [q2] at f2
          exact fun J B' H' s g3 gb3 a3 => ⟨J, B', z2, S2, g3, (gb.trans g2.gb).trans gb3, a3, FinS.gb f2 gb3⟩
        | bk z2 S2 => rw [q2] at f2; exact f2
        | rt d S2 => rw [q2] at f2; exact f2
        | exc x z2 S2 => rw [q2] at f2; exact f2
        | bad => rw [q2] at f2; exact f2
    · have ei : i = ds.length := by omega
      subst ei
      rw [List.drop_length, loop] at f'
      exact .inl ⟨wk.stops gb a'.st, f' I' B' H s g' GB.rfl a'⟩
theorem s_while {c : Expr} {t : CT} (n : Nat) (hp : PassesOwn (model X.prog X.w) X.A X.env X.xe) (hc : PT X c (rdT T W t)) (hb : PSs X body (rdS T I0 B0 H0 W cb)) : PS X (.While c body [] pos) (rdS T I0 B0 H0 W (sWhile n t cb)) := by
  refine ps_imp (ps_while hp hc hb) ?_
  rintro D s H ⟨I, B, z, S, g0, a, f⟩
  refine ⟨fun m s H => ∃ I B z S, Gr I0 B0 H0 I B H ∧ At T H0 I B H s z S ∧ FinS T I0 B0 H0 W I B D (wloop t cb m z S), ⟨n, I, B, z, S, g0, a, f⟩, ?_⟩
  rintro m s H ⟨I, B, z, S, g0, a, f⟩
  cases m with
  | zero => exact f.elim
  | succ m =>
    rw [wloop] at f
    refine sdo (rep := rB) g0 a f fun J B' H' S' v x g1 g2 a1 r1 f1 => ?_
    cases r1
    cases v with
    | false => exact f1 J B' H' s g1 GB.rfl a1
    | true =>
      rw [if_pos rfl] at f1 ⊢
      refine ⟨fun s H => ∃ I B z S, Gr I0 B0 H0 I B H ∧ At T H0 I B H s z S ∧ FinS T I0 B0 H0 W I B D (wloop t cb m z S), fun s' H' p => ⟨m, Nat.lt_succ_self _, p⟩, J, B', z, S', g1, a1, ?_⟩
      cases q2 : cb z S' with
      | nx z2 S2 =>
        rw [q2] at f1
        exact fun J B' H' s g3 gb3 a3 => ⟨J, B', z2, S2, g3, a3, FinS.gb f1 gb3⟩
      | ct z2 S2 =>
        rw [q2] at f1
        exact fun J B' H' s g3 gb3 a3 => ⟨J, B', z2, S2, g3, a3, FinS.gb f1 gb3⟩
      | bk z2 S2 => rw [q2] at f1; exact f1
      | rt d S2 => rw [q2] at f1; exact f1
      | exc x z2 S2 => rw [q2] at f1; exact f1
      | bad => rw [q2] at f1; exact f1
end
end CL
set_option Elab.async false
set_option linter.all false
set_option maxRecDepth 100000
/-! CL12: comprehensions. -/
namespace CL
open PySem PySem.Spec PyProof.Rows L2
variable [TheK]
variable {L : Tl} {T : Pm} {X : Cx} {W : WX}

abbrev wNo : WX := fun _ _ _ _ => False
/-- only the slots vs have changed -/
structure Tch (vs : List Nat) (s s' : L2.St) : Prop where
  len : s'.length = s.length
  out : ∀ i, i ∉ vs → s'[i]? = s[i]?
theorem Tch.refl (vs : List Nat) (s : L2.St) : Tch vs s s := ⟨rfl, fun _ _ => rfl⟩
theorem Tch.trans {vs : List Nat} {s s1 s2 : L2.St} (h : Tch vs s s1) (k : Tch vs s1 s2) : Tch vs s s2 := ⟨k.len.trans h.len, fun i hi => (k.out i hi).trans (h.out i hi)⟩
theorem wipe_in {s : L2.St} {i : Nat} : ∀ {vs : List Nat}, i ∈ vs → i < s.length → (wipe s vs)[i]? = some none
  | v :: vs, h, hl => by
    unfold wipe
    rw [List.getElem?_set]
    by_cases e : v = i
    · rw [if_pos e, if_pos (by rw [wipe_length]; exact e ▸ hl)]
    · rw [if_neg e]
      have : i ∈ vs := by
        rcases List.mem_cons.mp h with q | q
        · exact absurd q.symm e
        · exact q
      exact wipe_in this hl
theorem Tch.wipe {vs : List Nat} {s s' : L2.St} (h : Tch vs s s') : wipe s' vs = wipe s vs := by
  apply List.ext_getElem?
  intro i
  by_cases hi : i ∈ vs
  · by_cases hl : i < s.length
    · rw [wipe_in hi hl, wipe_in hi (by rw [h.len]; exact hl)]
    · rw [List.getElem?_eq_none (by rw [wipe_length, h.len]; omega), List.getElem?_eq_none (by rw [wipe_length]; omega)]
  · rw [wipe_out hi, wipe_out hi, h.out i hi]
section
variable {vs : List Nat}
variable (T) in
def rdGw (vs : List Nat) (g : Tg) : TG := fun v s H Q => ∃ H0 I B z S d, At T H0 I B H s z S ∧ Rp I B v d ∧ match g d z with
  | some z' => ∀ s', At T H0 I B H s' z' S → Tch vs s s' → Q s' H
  | none => False
variable (T) in
def rdGws (vs : List Nat) (g : Tgs) : TGs := fun us s H Q => ∃ H0 I B z S ds, At T H0 I B H s z S ∧ Rps I B us ds ∧ match g ds z with
  | some z' => ∀ s', At T H0 I B H s' z' S → Tch vs s s' → Q s' H
  | none => False
theorem gw_name {i : Nat} {x : Str} {pos : Pos} (hN : X.N.Nodup) (hi : X.N[i]? = some x) (hx : Loc X.env.scope x) (hv : i ∈ vs) (hf : X.fn x = true ∨ X.env.scope.names.lookup x = some .local := by first | exact .inl rfl | exact .inr rfl | assumption) : PG X (.Name x pos) (rdGw T vs (gN i)) := by
  refine pg_imp (pg_name hN hi hx hf) ?_
  rintro v s H Q ⟨H0, I, B, z, S, d, a, r, f⟩
  refine f _ (a.setD i r) ⟨by simp, fun j hj => ?_⟩
  rw [List.getElem?_set_ne]
  exact fun e => hj (e ▸ hv)
theorem gw_nil : PGs X [] (rdGws T vs gNil) := by
  refine pgs_imp pgs_nil ?_
  rintro us s H Q ⟨H0, I, B, z, S, ds, a, r, f⟩
  unfold gNil at f
  match ds, us, r with
  | [], [], _ => exact ⟨rfl, f s a (Tch.refl _ _)⟩
theorem gw_cons {tg : Expr} {tgs : List Expr} {g : Tg} {gs : Tgs} (h1 : PG X tg (rdGw T vs g)) (h2 : PGs X tgs (rdGws T vs gs))
    (hs : (assignEach (tg :: tgs) X.env).map (·.2) = assign tg X.env :: (assignEach tgs X.env).map (·.2) := by rfl) : PGs X (tg :: tgs) (rdGws T vs (gCons g gs)) := by
  refine pgs_imp (pgs_cons h1 h2 hs) ?_
  rintro us s H Q ⟨H0, I, B, z, S, ds, a, r, f⟩
  match ds, us, r with
  | d :: ds, v :: us, r =>
    refine ⟨v, us, rfl, H0, I, B, z, S, d, a, r.1, ?_⟩
    unfold gCons at f
    dsimp only at f
    cases q : g d z with
    | none => rw [q] at f; exact f
    | some z1 =>
      rw [q] at f
      dsimp only
      intro s' a' t1
      refine ⟨H0, I, B, z1, S, ds, a', r.2, ?_⟩
      simp only [Option.bind] at f
      cases q2 : gs ds z1 with
      | none => rw [q2] at f; exact f
      | some z2 =>
        rw [q2] at f
        exact fun s2 a2 t2 => f s2 a2 (t1.trans t2)
  | [], _, _ => exact f.elim
theorem gw_tup {es : List Expr} {k : Nat} {gs : Tgs} {n : Nat} {pos : Pos} (hc : X.calm = true) (h : PGs X es (rdGws T vs gs)) (hn : (assignEach es X.env).length = n := by rfl) (hst : (assignEach es X.env).findIdx? (·.1) = none := by rfl) : PG X (.Tuple es k pos) (rdGw T vs (CL.gTup n gs)) := by
  refine pg_imp (pg_tup hc h hn hst) ?_
  rintro v s H Q ⟨H0, I, B, z, S, d, a, r, f⟩
  unfold CL.gTup at f
  cases d with
  | tup xs =>
    obtain ⟨b, us, rfl, hb, _, rv⟩ := Rp.tup a.st r
    dsimp only at f
    by_cases hl : xs.length = n
    · rw [if_pos hl] at f
      exact ⟨b, us, rfl, SqT.of hb, by rw [rv.len]; exact hl, H0, I, B, z, S, xs, a, rv, f⟩
    · rw [if_neg hl] at f; exact f.elim
  | _ => exact f.elim
end
section
variable {H0 : Hp} {I J : List Addr} {B H B' H' : Hp} {s : L2.St} {z : Sl} {S : Store}
theorem At.wipe (a : At T H0 I B H s z S) : ∀ vs : List Nat, At T H0 I B H (wipe s vs) (wipeD z vs) S
  | [] => a
  | v :: vs => (At.wipe a vs).setU v none
/-- an object on its own: no slot, no store, nothing that stays -/
structure Hid (D : Addr) (o : HO) (I : List Addr) (B H : Hp) : Prop where
  at_ : H D = some o
  nb : B D = none
  ni : D ∉ I
theorem Hid.gr {D : Addr} {o : HO} (h : Hid D o I B H) (nt : ∀ ps, o ≠ .tbl ps) (g : Gr I B H J B' H') : Hid D o J B' H' := by
  refine ⟨g.keep D o h.at_ h.ni nt, ?_, fun hm => ?_⟩
  · cases q : B' D with
    | none => rfl
    | some u =>
      rcases g.new D u q with e | e
      · rw [h.nb] at e; cases e
      · exact (e.no h.at_ nt).elim
  · obtain ⟨k, rfl, hk⟩ := g.pre
    rcases List.mem_append.mp hm with e | e
    · exact h.ni e
    · exact (hk D e).no h.at_ nt
theorem Sto.hid {D : Addr} {o u : HO} (st : Sto L I B H S) (h : Hid D o I B H) (n1 : ∀ ps, o ≠ .tbl ps) (n2 : ∀ f, o ≠ .ext f) : Sto L I B (upd H D u) S := by
  refine ⟨st.len, st.nd, st.dj, fun b w q => ?_, st.nt, fun k m q => ?_, tab_upd st.tb h.at_ n1 n2⟩
  · rw [upd_ne]
    · exact st.sub b w q
    · intro e; subst e; rw [h.nb] at q; cases q
  · obtain ⟨b, w, h1, h2, h3⟩ := st.at_ k m q
    refine ⟨b, w, h1, ?_, h3⟩
    rw [upd_ne]
    · exact h2
    · intro e; subst e; exact h.ni (List.mem_of_getElem? h1)
/-- it is laid down for good -/
theorem Sto.show_ {D : Addr} {o : HO} (st : Sto L I B H S) (h : Hid D o I B H) (nt : ∀ ps, o ≠ .tbl ps) : Sto L I (upd B D o) H S := by
  have hB : ∀ c u, B c = some u → upd B D o c = some u := fun c u q => by
    rw [upd_ne]
    · exact q
    · intro e; subst e; rw [h.nb] at q; cases q
  refine ⟨st.len, st.nd, fun c hc => ?_, fun c u q => ?_, fun c u q => ?_, fun k m q => ?_, st.tb⟩
  · have ne : c ≠ D := fun e => h.ni (by rw [← e]; exact hc)
    rw [upd_ne ne]; exact st.dj c hc
  · by_cases e : c = D
    · subst e; rw [upd_same] at q; cases q; exact h.at_
    · rw [upd_ne e] at q; exact st.sub c u q
  · by_cases e : c = D
    · subst e; rw [upd_same] at q; cases q; exact nt
    · rw [upd_ne e] at q; exact st.nt c u q
  · obtain ⟨b, w, h1, h2, h3⟩ := st.at_ k m q
    exact ⟨b, w, h1, h2, h3.mono ⟨[], by simp⟩ hB⟩
theorem Gr.show_ {D : Addr} {o : HO} (g : Gr I B H J B' H') (h0 : Fr H D) (h : Hid D o J B' H') : Gr I B H J (upd B' D o) H' where
  pre := g.pre
  ext := fun c u q => by
    have ne : c ≠ D := fun e => by
      subst e
      have := g.ext _ _ q
      rw [h.nb] at this; cases this
    rw [upd_ne ne]; exact g.ext c u q
  new := fun c u q => by
    by_cases e : c = D
    · exact .inr (e ▸ h0)
    · rw [upd_ne e] at q; exact g.new c u q
  keep := g.keep
  dom := g.dom
end
/-- a reading without exceptions, as one with -/
theorem lc_read {it : CA} {g : Tg} {t : CT} {e : CE} {vs : List Nat} {s : L2.St} {H : Hp} {Q : VK} (h : rdE T W (cLc it g t e vs) s H Q) :
    tLc (rdI T W it) (rdGw T vs g) (rdT T wNo t) (rdE T wNo e) vs s H Q := by
  obtain ⟨H0, I, B, z, S, a, h⟩ := h
  refine ⟨H0, I, B, z, S, a, ?_⟩
  unfold cLc at h
  cases q : it z S with
  | bad => rw [q] at h; exact h.elim
  | exc x S' => rw [q] at h; exact h
  | ok ds S1 =>
    rw [q] at h
    simp only [R.bind] at h
    intro I1 B1 H1 Jt g1 st1 wk D hD
    have h := Fin.gr h g1
    have a1 := (a.gr g1 st1).wipe vs
    have hid : Hid D (.lst []) I1 B1 (upd H1 D (.lst [])) := ⟨upd_same, st1.noB hD, st1.notIn hD⟩
    refine ⟨fun i m H => m = ds.length - i ∧ i ≤ ds.length ∧ ∃ I' B' S' acc accD, Gr I1 B1 H1 I' B' H ∧ Sto T.tabs I' B' H S' ∧ Hid D (.lst acc) I' B' H ∧ Rps I' B' acc accD ∧
        Fin T.tabs Rp W s I1 B1 H1 Q ((lcGo g t e (wipeD z vs) (ds.drop i) S' accD).bind fun xs S2 => .ok (.lst xs) S2),
      ⟨ds.length, by simp, Nat.zero_le _, I1, B1, S1, [], [], gr_own (Gr.refl _ _ _) (.of hD), st1.mono_H (keep_new hD), hid, trivial, by simpa using h⟩, ?_⟩
    rintro i m H ⟨rfl, hi, I', B', S', acc, accD, gr', st', hid', racc, f'⟩
    by_cases hlt : i < ds.length
    · refine .inr ⟨wk.goes i gr'.gb st' hlt, fun H => ∃ I' B' S' acc accD, Gr I1 B1 H1 I' B' H ∧ Sto T.tabs I' B' H S' ∧ Hid D (.lst acc) I' B' H ∧ Rps I' B' acc accD ∧
          Fin T.tabs Rp W s I1 B1 H1 Q ((lcGo g t e (wipeD z vs) (ds.drop (i + 1)) S' accD).bind fun xs S2 => .ok (.lst xs) S2),
        fun H' p => ⟨ds.length - (i + 1), by omega, rfl, hlt, p⟩, fun x H' y => ?_⟩
      obtain ⟨I2, B2, g2, st2, r2⟩ := wk.yields i gr'.gb st' y (List.getElem?_eq_getElem hlt)
      have a2 := a1.gr (gr'.trans g2) st2
      have hid2 := hid'.gr (fun ps z => by cases z) g2
      refine ⟨H0, I2, B2, wipeD z vs, S', ds[i], a2, r2, ?_⟩
      rw [List.drop_eq_getElem_cons hlt, lcGo] at f'
      cases q1 : g ds[i] (wipeD z vs) with
      | none => rw [q1] at f'; exact f'.elim
      | some z1 =>
        rw [q1] at f'
        dsimp only at f' ⊢
        intro s2 as2 tch
        refine ⟨by rw [tch.wipe, Tch.wipe (vs := vs) (s := s) ⟨wipe_length _ _, fun i hi => wipe_out hi⟩], ?_⟩
        refine ⟨H0, I2, B2, z1, S', as2, ?_⟩
        cases q2 : t z1 S' with
        | bad => rw [q2] at f'; exact f'.elim
        | exc x S3 => rw [q2] at f'; exact f'.elim
        | ok b S3 =>
          rw [q2] at f'
          intro I3 B3 H3 b' g3 st3 rb
          cases rb
          have hid3 := hid2.gr (fun ps z => by cases z) g3
          have gr3 := (gr'.trans g2).trans g3
          cases b with
          | false =>
            rw [if_neg Bool.false_ne_true]
            exact ⟨I3, B3, S3, acc, accD, gr3, st3, hid3, (racc.gr g2).gr g3, f'⟩
          | true =>
            rw [if_pos rfl]
            refine ⟨H0, I3, B3, z1, S3, as2.gr g3 st3, ?_⟩
            dsimp only at f'
            cases q3 : e z1 S3 with
            | bad => rw [q3] at f'; exact f'.elim
            | exc x S4 => rw [q3] at f'; exact f'.elim
            | ok d S4 =>
              rw [q3] at f'
              dsimp only at f'
              intro I4 B4 H4 v4 g4 st4 r4
              have hid4 := hid3.gr (fun ps z => by cases z) g4
              by_cases hl : accD.length < 16777216
              · rw [if_pos hl] at f'
                have ra := ((racc.gr g2).gr g3).gr g4
                refine ⟨acc, hid4.at_, by rw [ra.len]; exact line_lt hl, I4, B4, S4, acc ++ [v4], accD ++ [d], gr_own (gr3.trans g4) (.of hD), st4.hid hid4 (fun ps z => by cases z) (fun q z => by cases z), ⟨upd_same, hid4.nb, hid4.ni⟩, ra.append ⟨r4, trivial⟩, f'⟩
              · rw [if_neg hl] at f'; exact f'.elim
    · have ei : i = ds.length := by omega
      subst ei
      rw [List.drop_length, lcGo] at f'
      refine .inl ⟨wk.stops gr'.gb st', ?_⟩
      have hh : Hid D (.lst acc) I' B' H := hid'
      exact f' I' (upd B' D (.lst acc)) H (.ref D) (gr'.show_ (.of hD) hh) (st'.show_ hh (fun ps z => by cases z)) ⟨D, acc, rfl, upd_same, racc.mono ⟨[], by simp⟩ (xs := accD) fun c u q => by
        rw [upd_ne]
        · exact q
        · intro e; subst e; rw [hh.nb] at q; cases q⟩
section
variable {tg iter elt : Expr} {ifs : List Expr} {scope : Scope} {own : List (Str × Nat)} {it : CA} {g : Tg} {t : CT} {e : CE} {pos : Pos}
theorem ts_nil : PTs X [] (rdT T W tYesC) := by
  refine ⟨fun pins s σ H Q I h => pts_nil.run pins s σ H Q I ?_⟩
  obtain ⟨H0, J, B, z, S, a, f⟩ := h
  exact Fin.here (rep := rB) (x := true) (v := true) f a.st rfl
theorem ts_one {c : Expr} (h : PT X c (rdT T W t)) : PTs X [c] (rdT T W t) := pts_one h
theorem e_lc (hc : X.calm = true) (hN : X.N.Nodup) {Nn : List Str} {ss : Scope} (hNn : X.N = Nn) (hss : X.env.scope = ss) (ok : blkC Nn ss scope own = true) (hi : PI X tg iter (rdI T W it))
    (hg : ∀ (s : Shared) (H : Hp) (C : Addr) (cl : List (Str × Addr)) (fp : List Addr), PG (X.blk s H scope (compEnvC scope cl C X.env) fp) tg (rdGw T (own.map (·.2)) g))
    (ht : ∀ (s : Shared) (H : Hp) (C : Addr) (cl : List (Str × Addr)) (fp : List Addr), PTs (X.blk s H scope (compEnvC scope cl C X.env) fp) ifs (rdT T wNo t))
    (he : ∀ (s : Shared) (H : Hp) (C : Addr) (cl : List (Str × Addr)) (fp : List Addr), PE (X.blk s H scope (compEnvC scope cl C X.env) fp) elt (rdE T wNo e)) (hs : ∀ x, foldedSetIterable iter X.env x = pure x := by intro _; rfl) :
    PE X (.ListComp elt [⟨tg, iter, ifs, 0⟩] scope pos) (rdE T W (cLc it g t e (own.map (·.2)))) :=
  pe_imp (pe_lc hc hN hi (blkOk_by (by subst hNn hss; exact ok)) hg ht he hs) fun _ _ _ h => lc_read h
theorem s_setLc {I0 : List Addr} {B0 H0 : Hp} {i : Nat} {y : Str} {py spos : Pos} (hc : X.calm = true) (hN : X.N.Nodup) (hy : X.N[i]? = some y) (hyl : X.env.scope.names.lookup y = some .local)
    (hsw : swapsWith (.ListComp elt [⟨tg, iter, ifs, 0⟩] scope pos) (some (.Name y py)) spos.line X.env = pure true) {Nn : List Str} {ss : Scope} (hNn : X.N = Nn) (hss : X.env.scope = ss) (ok : blkC Nn ss scope own = true) (hi : PI X tg iter (rdI T W it))
    (hg : ∀ (s : Shared) (H : Hp) (C : Addr) (cl : List (Str × Addr)) (fp : List Addr), PG (X.blk s H scope (compEnvC scope cl C X.env) fp) tg (rdGw T (own.map (·.2)) g))
    (ht : ∀ (s : Shared) (H : Hp) (C : Addr) (cl : List (Str × Addr)) (fp : List Addr), PTs (X.blk s H scope (compEnvC scope cl C X.env) fp) ifs (rdT T wNo t))
    (he : ∀ (s : Shared) (H : Hp) (C : Addr) (cl : List (Str × Addr)) (fp : List Addr), PE (X.blk s H scope (compEnvC scope cl C X.env) fp) elt (rdE T wNo e)) (hs : ∀ x, foldedSetIterable iter X.env x = pure x := by intro _; rfl) :
    PS X (.Assign [.Name y py] (.ListComp elt [⟨tg, iter, ifs, 0⟩] scope pos) spos) (rdS T I0 B0 H0 W (sSet i (cLc it g t e (own.map (·.2))))) := by
  refine ps_imp (ps_setLc hc hN hy hyl hsw hi (blkOk_by (by subst hNn hss; exact ok)) hg ht he hs) ?_
  rintro D s H ⟨I, B, z, S, g', a, f⟩
  exact lc_read (sdo (rep := Rp) g' a f fun J B' H' S' v x g0 g1 a1 r1 f1 => f1 J B' H' _ g0 GB.rfl (a1.setD i r1))
end
end CL
set_option Elab.async false
set_option linter.all false
set_option maxRecDepth 100000
set_option maxHeartbeats 4000000
/-! CL13: an own exception class whose __init__ takes keywords alone. -/
namespace PySem
namespace XKC
open Builtin Builtin.ObjectAttr HandSPX
section
variable {M : Model} {A : Around} {E : Value → Shared → Prop} {h : Heap} {g : Array GenState} {d : Drawn} {t : Nat} {os : OsState}
variable {nm q : Str} {C N : Addr} {bs bm bmB : List Value} {hdct : Bool} {sn : List Str} {sub : List Value} {ab : Bool} {col : Option Bool} {dd : Option Addr} {k0 k1 k2 k3 k5 : Option Value} {B newId initId : String}
theorem xk_check (F : ExcBaseFacts B newId initId bmB) (hT : ∀ X : String, bm.contains (.type X) = bmB.contains (.type X)) {kw : List (Str × Value)} {Q : Unit → Shared → Prop}
    (hC : h.get? C = some (excClassObj nm q C N bs bm hdct sn sub ab col dd k0 k1 k2 k3 k5 newId)) (hq : Q () ⟨h, g, d, t, os⟩) : wpAny M A (checkBuiltinCall newId ⟨[.ref C], kw⟩) Q E ⟨h, g, d, t, os⟩ := by
  have hh : (Value.ref C :: bm).contains (.type B) = true := by rw [List.contains_cons, hT, F.hasB, Bool.or_true]
  have hn := F.noStar
  simp only [checkBuiltinCall, F.newKind, F.newSplit, F.newRow]
  repeat (first | refine wpAny_loadPart_at hC ?_ | (refine wpAny_isSubtype_exc hC ?_; rw [hh]) | refine wpAny_staticBase_exc hC ?_ | refine wpAny_madeBy_exc hC ?_ | simp only [bne_self_eq_false, Bool.false_eq_true, if_false] | wp_step)
  exact hq
end
section
variable {prog : Program} {w : World} {A : Around} {E : Value → Shared → Prop} {R : Result → Shared → Prop} {h : Heap} {g : Array GenState} {d : Drawn} {t : Nat} {os : OsState}
variable {nm q : Str} {C N : Addr} {bs bm bmB : List Value} {hdct : Bool} {sn : List Str} {sub : List Value} {ab : Bool} {col : Option Bool} {dd : Option Addr} {k0 k1 k2 k3 k5 : Option Value} {B newId initId : String}
theorem xk_new (F : ExcBaseFacts B newId initId bmB) (hT : ∀ X : String, bm.contains (.type X) = bmB.contains (.type X)) {kw : List (Str × Value)}
    (hC : h.get? C = some (excClassObj nm q C N bs bm hdct sn sub ab col dd k0 k1 k2 k3 k5 newId))
    (hq : R (.ok (.ret (.ref (h.objs.size + 1)))) ⟨(h.push (W.kdv_tup [])).push (excO C h.objs.size), g, d, t, os⟩) :
    codeAny (model prog w) A (.builtin newId ⟨[.ref C], kw⟩) R ⟨h, g, d, t, os⟩ := by
  have he := F.ends
  have b1 : (Value.ref C :: bm).contains (.type B) = true := by rw [List.contains_cons, hT, F.hasB, Bool.or_true]
  have b2 : (Value.ref C :: bm).contains (.type "AttributeError") = false := by rw [List.contains_cons, hT, F.noAttr]; rfl
  have b3 : (Value.ref C :: bm).contains (.type "NameError") = false := by rw [List.contains_cons, hT, F.noName]; rfl
  have hrest : ([] : List Value).length ≤ sizeLine := Nat.zero_le _
  refine codeAny_builtinAt F.entry ?_
  unfold Builtin.«BaseException.__new__»
  refine wpAt_bind ?_
  show wpAt _ _ _ (stack >>= _) _ _ _
  refine wpAt_bind (wpAt_stack fun p below => wpAt_of_wpAny ?_)
  wp_walk
  refine wpAt_of_wpAny ?_
  rw [F.owner]
  repeat (first | with_reducible refine wpAny_madeHere_exc F.canon hC ?_ | with_reducible refine wpAny_loadPart_at hC ?_ | (with_reducible refine wpAny_isSubtype_exc hC ?_; first | rw [b1] | rw [b2] | rw [b3]) | wp_step)
  show R _ _
  rw [Heap.size_push]
  exact hq
theorem xk_type (F : ExcBaseFacts B newId initId bmB) (hT : ∀ X : String, bm.contains (.type X) = bmB.contains (.type X)) {kw : List (Str × Value)} {fI : Addr} {Q : Fin → Shared → Prop}
    (hC : h.get? C = some (excClassObj nm q C N bs bm hdct sn sub ab col dd k0 k1 k2 k3 k5 newId))
    (hi : W.Looks (model prog w) h (typeLookup (.ref C) "__init__") (some (.ref fI))) (hb : ∀ self, W.Looks (model prog w) h (bindSpecial (.ref fI) self) (.ref fI, [self]))
    (hq : codeAny (model prog w) A (.call (.ref fI) ⟨[.ref (h.objs.size + 1)], kw⟩)
      (fun r s' => match r with | .ok (.ret v) => v = .none ∧ Q (.done (.ret (.ref (h.objs.size + 1)))) s' | .ok _ => False | .error e => E e s')
      ⟨(h.push (W.kdv_tup [])).push (excO C h.objs.size), g, d, t, os⟩) :
    wpAny (model prog w) A (Builtin.«type.__call__» ⟨[.ref C], kw⟩) Q E ⟨h, g, d, t, os⟩ := by
  repeat (first | with_reducible refine wpAny_loadPart_at hC ?_ | with_reducible refine wpAny_madeBy_exc hC ?_ | wp_step)
  refine codeAny_call_builtin_code (Code.quiet_builtin _ F.quiet) (xk_check F hT hC ?_)
  refine xk_new F hT hC ?_
  show wpAny _ _ _ _ _ _
  have k : ∀ b o, h.get? b = some o → ((h.push (W.kdv_tup [])).push (excO C h.objs.size)).get? b = some o := fun b o e => Heap.get?_push_of_some _ (Heap.get?_push_of_some _ e)
  have hk := k _ _ hC
  have hx : ((h.push (W.kdv_tup [])).push (excO C h.objs.size)).get? (h.objs.size + 1) = some (excO C h.objs.size) := by heap_get
  have hs : (Value.ref C :: bm).contains (.ref C) = true := by simp
  have j1 := hi.keeps k
  have j2 := (hb (.ref (h.objs.size + 1))).keeps k
  unfold isInstance
  repeat (first | with_reducible refine wpAny_loadPart_at hx ?_ | (with_reducible refine wpAny_isSubtype_exc hk ?_; rw [hs]) | wp_step)
  show wpAny _ _ (typeLookup (.ref C) _) _ _ _
  refine j1.at ?_
  refine wpAny_holding (wpAny_bind (j2.at ?_))
  refine wpAny_bind (wpAny_call (codeAny_mono hq fun r s' z => ?_))
  rcases r with e | (v | _ | _ | _) <;> first | exact z | exact z.elim | skip
  obtain ⟨rfl, z⟩ := z
  first
    | exact wpAny_pure (wpAny_pure z)
    | (wp_walk; exact z)
theorem xk_call (F : ExcBaseFacts B newId initId bmB) (hT : ∀ X : String, bm.contains (.type X) = bmB.contains (.type X)) {kw : List (Str × Value)} {fI : Addr}
    (hC : h.get? C = some (excClassObj nm q C N bs bm hdct sn sub ab col dd k0 k1 k2 k3 k5 newId))
    (hi : W.Looks (model prog w) h (typeLookup (.ref C) "__init__") (some (.ref fI))) (hb : ∀ self, W.Looks (model prog w) h (bindSpecial (.ref fI) self) (.ref fI, [self]))
    (hq : codeAny (model prog w) (A.under (.builtin "type.__call__" ⟨[.ref C], kw⟩)) (.call (.ref fI) ⟨[.ref (h.objs.size + 1)], kw⟩) (W.InitBack (h.objs.size + 1) R)
      ⟨(h.push (W.kdv_tup [])).push (excO C h.objs.size), g, d, t, os⟩) :
    codeAny (model prog w) A (.call (.ref C) ⟨[], kw⟩) R ⟨h, g, d, t, os⟩ := by
  have f1 := tc_lookup
  have f2 := tc_bind (.ref C)
  have ht : (⟨h, g, d, t, os⟩ : Shared).TypeIs (.ref C) "type" := ⟨_, hC, rfl⟩
  refine codeAny_of_tree ?_
  show wpAny _ _ (callAny (.ref C) _) _ _ _
  repeat (any_goals (first | assumption | with_reducible refine wpAny_loadPart_at hC ?_ | wp_step))
  refine ⟨rfl, ?_⟩
  refine codeAny_call_builtin_at (Code.quiet_builtin _ (by decide +kernel)) entry_typeCall (wpAny_check_type_call_sub hC (xk_type F hT hC hi hb ?_))
  refine codeAny_mono hq fun r s' z => ?_
  rcases r with e | (v | _ | _ | _) <;> exact z
end
end XKC
end PySem
set_option Elab.async false
set_option linter.all false
set_option maxRecDepth 100000
set_option maxHeartbeats 2000000
/-! CL14: own exceptions raised. -/
namespace CL
open PySem PySem.Spec PyProof.Rows L2
variable [TheK]
variable {L : Tl} {T : Pm} {X : Cx} {W : WX}

/-- the own __init__ of an exception class with the attributes fs: what it does -/
def spX (C : Addr) (fs : List Str) : Sp := fun vs H Q E => ∃ a ws, vs = .ref a :: ws ∧ ws.length = fs.length ∧ H a = some (exo a C none) ∧
  ∀ dx H', H dx = none → dx ≠ a → H' a = some (exo a C (some dx)) → H' dx = some (exd dx (fs.zip ws).reverse) → (∀ b, b ≠ a → b ≠ dx → H' b = H b) → Q .non H'
structure XInit (P : Program) (w : World) (K : PySem.W.Frag) (mg : Str → Option Value) (base : Heap) (k : Nat) (C : Addr) (fs : List Str) : Prop where
  oex : OexC K C
  ex : ∃ fI fd, PySem.W.findIn K (.ref C) "__init__" = some (some (.ref fI)) ∧ PySem.W.typeIn K (.ref fI) = some (.type "function") ∧ FnOk P w K mg base (L2.CX P w) k fI fd (("self" : Str) :: fs) (spX C fs) ∧
    ∀ (s : Shared) (us ws : List Value), K.In s.heap → us.length = 1 → ws.length = fs.length → BindsTo s fd ⟨us, fs.zip ws⟩ ((("self" : Str) :: fs).zip (us ++ ws))
section
variable {o e : Expr} {es : List Expr} {to te : TE} {ta : TA} {f x : Str} {p p' p1 p2 pos : Pos} {mc : Value} {CB : Addr}
/-- B.__init__(self, ..), B an own class over ValueError without own __init__ -/
theorem pe_oinit {pl : Sem Bool} (hg : Gl X x) (hm : X.mg x = some (.ref CB)) (r : ClX.CRead X.K CB mc) (hv : PySem.W.findCls X.K (.ref CB) mc "__init__" = some (.val (.builtin "ValueError.__init__"))) (ha : PA X (e :: es) ta)
    (hdb : (x == ("__debug__" : Str)) = false := by decide)
    (hc : eval (.Call (.Attribute (.Name x p1) "__init__" p2) (e :: es) [] pos) X.env = (do
      let ov ← eval (.Name x p1) X.env
      standAt p2.atName
      let (f, first) ← holding [ov] (getMethod ov "__init__" pl)
      callWith pos f first (backTo pos (starEach (e :: es) X.env)) (backToKw pos (keywordEach [] X.env))) := by rfl)
    (he : starEach (e :: es) X.env = (false, eval e X.env) :: starEach es X.env := by rfl) (hpl : (backTo pos (starEach es X.env)).any (·.1) = false := by rfl) :
    PE X (.Call (.Attribute (.Name x p1) "__init__" p2) (e :: es) [] pos) (tVeI X.K ta) := by
  refine ⟨fun pins s σ H Q I h => ?_⟩
  refine PySem.W.methodCall_KW (ld_glob I hg hm ?_ hdb) hc
  refine PySem.W.method_cls I.kIn r.ga (PySem.W.cls_value I.kIn r.rd hv (by decide +kernel) ?_)
  refine PyProof.Rows.callWith_method1 (thn (ha.run pos pins _ σ H _ (I.tok _) h) fun us s1 ⟨vs, H1, I1, r1, a, C, ws, ev, hl, T, ea, q⟩ => ?_) he hpl
  subst ev
  cases r1 with
  | @cons _ u0 _ ur ra rw' =>
    obtain rfl : u0 = Value.ref a := ra
    have hlen : ur.length ≤ sizeLine := by
      rw [← Paired.length rw', sizeLine_eq]
      omega
    exact oinit_ok T I1 ea hlen fun s' J => ⟨.non, H1, J, rfl, q⟩
end
section
variable {P : Program} {w : World} {K : PySem.W.Frag} {mg : Str → Option Value} {base : Heap} {C : Addr} {f1 f2 m : Str} {x qual : Str} {st : Stmt} {fI : Addr} {fd : FuncData} {k : Nat}
theorem upd_swap {H : Hp} {a b : Addr} {o u : HO} (h : a ≠ b) : upd (upd H a o) b u = upd (upd H b u) a o := by
  funext c
  by_cases h1 : c = b
  · subst h1; rw [upd_same, upd_ne (Ne.symm h), upd_same]
  · rw [upd_ne h1]
    by_cases h2 : c = a
    · subst h2; rw [upd_same, upd_same]
    · rw [upd_ne h2, upd_ne h2, upd_ne h1]
theorem xinit1 (F : Fun K x qual st fI fd) (S : FnScope [("self" : Str), f1] [("self" : Str), f1] (defScope st)) (oex : OexC K C) (iC : PySem.W.findIn K (.ref C) "__init__" = some (some (.ref fI))) (tI : PySem.W.typeIn K (.ref fI) = some (.type "function")) (hf : PySem.W.findIn K (.ref C) f1 = some none)
    (hbind : ∀ (s : Shared) (us ws : List Value), K.In s.heap → us.length = 1 → ws.length = 1 → BindsTo s fd ⟨us, [f1].zip ws⟩ ([("self" : Str), f1].zip (us ++ ws)))
    (hb : ∀ (cdv : Value) (A : Around) (outer : List Env) (s : Shared) (H : Hp) (E : XK), PSs (cxOf (L2.CX P w) P w K mg base [("self" : Str), f1] qual (defScope st) fI cdv A outer s H E) (defBody st)
      (tSeq (tDrop (tVeI K (tCons (tVar 0) (tCons (tC (.str m)) tNil)))) (tOst K f1 (tVar 0) (tVar 1)))) : XInit P w K mg base (k + 1) C [f1] := by
  refine ⟨oex, fI, fd, iC, tI, F.okX S (fun vs H Q E h => ?_) (fun cdv A outer s H vs Q E hr h => ⟨_, hb cdv A outer s H E, ?_⟩), hbind⟩
  · obtain ⟨a, ws, rfl, hl, _⟩ := h
    simpa using hl
  · obtain ⟨a, ws, rfl, hl, ha, q⟩ := h
    match ws, hl with
    | [y], _ =>
      refine ⟨.ref a, rfl, a, C, [.str m], rfl, by simp, oex, ha, y, rfl, .ref a, rfl, a, C, rfl, oex, hf, .inl ⟨ha, fun dx hd hn => ?_⟩⟩
      exact q dx _ hd hn upd_same (by rw [upd_ne hn, upd_same]; rfl) fun b h1 h2 => by rw [upd_ne h1, upd_ne h2]
theorem xinit2 (F : Fun K x qual st fI fd) (S : FnScope [("self" : Str), f1, f2] [("self" : Str), f1, f2] (defScope st)) (oex : OexC K C) (iC : PySem.W.findIn K (.ref C) "__init__" = some (some (.ref fI))) (tI : PySem.W.typeIn K (.ref fI) = some (.type "function")) (hf : PySem.W.findIn K (.ref C) f1 = some none) (hf2 : PySem.W.findIn K (.ref C) f2 = some none)
    (hbind : ∀ (s : Shared) (us ws : List Value), K.In s.heap → us.length = 1 → ws.length = 2 → BindsTo s fd ⟨us, [f1, f2].zip ws⟩ ([("self" : Str), f1, f2].zip (us ++ ws)))
    (hb : ∀ (cdv : Value) (A : Around) (outer : List Env) (s : Shared) (H : Hp) (E : XK), PSs (cxOf (L2.CX P w) P w K mg base [("self" : Str), f1, f2] qual (defScope st) fI cdv A outer s H E) (defBody st)
      (tSeq (tDrop (tVeI K (tCons (tVar 0) (tCons (tC (.str m)) tNil)))) (tSeq (tOst K f1 (tVar 0) (tVar 1)) (tOst K f2 (tVar 0) (tVar 2))))) : XInit P w K mg base (k + 1) C [f1, f2] := by
  refine ⟨oex, fI, fd, iC, tI, F.okX S (fun vs H Q E h => ?_) (fun cdv A outer s H vs Q E hr h => ⟨_, hb cdv A outer s H E, ?_⟩), hbind⟩
  · obtain ⟨a, ws, rfl, hl, _⟩ := h
    simpa using hl
  · obtain ⟨a, ws, rfl, hl, ha, q⟩ := h
    match ws, hl with
    | [y, z], _ =>
      refine ⟨.ref a, rfl, a, C, [.str m], rfl, by simp, oex, ha, y, rfl, .ref a, rfl, a, C, rfl, oex, hf, .inl ⟨ha, fun dx hd hn => ?_⟩⟩
      refine ⟨z, rfl, .ref a, rfl, a, C, rfl, oex, hf2, .inr ⟨dx, [(f1, y)], upd_same, by rw [upd_ne hn, upd_same], by simp, ?_⟩⟩
      refine q dx _ hd hn (by rw [upd_ne (Ne.symm hn), upd_same]) (by rw [upd_same]; rfl) fun b h1 h2 => ?_
      rw [upd_ne h2, upd_ne h1, upd_ne h2]
end
/-- C(k = v, ..): the exception comes -/
def tMkX (C : Addr) (fs : List Str) (tk : TA) : L2.St → Hp → XK → Prop := fun σ H Q => tk σ H fun zs H1 => zs.length = fs.length ∧ ∀ d, H1 d = none → Q (.ref C) (some d) (upd H1 d (.xd (fs.zip zs).reverse))
section
variable {x : Str} {C : Addr} {fs : List Str} {k : Nat} {kws : List Keyword} {tk : TA} {p pos : Pos}
theorem pmk_kw (N : XInit X.prog X.w X.K X.mg X.base k C fs) (hr : Room (k + 1) X.A) (hg : Gl X x) (hm : X.mg x = some (.ref C)) (hkw : PK X kws tk)
    (hall : (backToKw pos (keywordEach kws X.env)).all (·.1.isSome) = true := by rfl) (hks : (backToKw pos (keywordEach kws X.env)).filterMap (·.1) = fs := by rfl) (hdb : (x == ("__debug__" : Str)) = false := by decide)
    (hpl : ((backTo pos (starEach [] X.env)).any (·.1) || (backToKw pos (keywordEach kws X.env)).any (·.1.isNone)) = false := by rfl) :
    PMk X (.Call (.Name x p) [] kws pos) (tMkX C fs tk) := by
  intro pins s σ H Q I h
  obtain ⟨oex, fI, fd, iC, tI, F1, hbind⟩ := N
  obtain ⟨nm, q, N, bs, bm, sn, sub, ab, col, dd, k0, k1, k2, k3, k5, hC, hbm⟩ := oex.cls
  refine wpAny_Call_Name_kw (ld_glob I hg hm ?_ hdb)
  refine PySem.W.callWith_KW0 (h₀ := X.base) I.ok.mod.kin oex.kC hall (thn (hkw.run pos pins s σ H _ I h) fun ws s1 ⟨zs, H1, I1, rz, lz, q1⟩ => ⟨I1.kIn, ?_⟩) hpl
  rw [hks]
  obtain ⟨hp, g, dr, tk, os⟩ := s1
  have hsz : hp.objs.size ≤ hp.objs.size + 1 := Nat.le_succ _
  have hn : H1 (hp.objs.size + 1) = none := I1.hok.fresh hsz
  have kk : ∀ b o, hp.get? b = some o → ((hp.push (PySem.W.kdv_tup [])).push (PySem.HandSPX.excO C hp.objs.size)).get? b = some o := fun b o e => Heap.get?_push_of_some _ (Heap.get?_push_of_some _ e)
  have hget : ((hp.push (PySem.W.kdv_tup [])).push (PySem.HandSPX.excO C hp.objs.size)).get? (hp.objs.size + 1) = some (PySem.HandSPX.excO C hp.objs.size) := by heap_get
  have I2 : Inv X pins σ (upd H1 (hp.objs.size + 1) (exo (hp.objs.size + 1) C none)) ⟨(hp.push (PySem.W.kdv_tup [])).push (PySem.HandSPX.excO C hp.objs.size), g, dr, tk, os⟩ :=
    I1.laid (t' := tk) (a := hp.objs.size + 1) (o := exo (hp.objs.size + 1) C none) (h' := (hp.push (PySem.W.kdv_tup [])).push (PySem.HandSPX.excO C hp.objs.size)) kk hsz (exo_ok hget)
  have r2 : Vals (V.ref (hp.objs.size + 1) :: zs) (Value.ref (hp.objs.size + 1) :: ws) := .cons rfl rz
  have hq : spX C fs (V.ref (hp.objs.size + 1) :: zs) (upd H1 (hp.objs.size + 1) (exo (hp.objs.size + 1) C none)) (fun v H2 => v = .non ∧ ∃ d, H1 d = none ∧ d ≠ hp.objs.size + 1 ∧ H2 (hp.objs.size + 1) = some (exo (hp.objs.size + 1) C (some d)) ∧ H2 d = some (exd d (fs.zip zs).reverse) ∧ ∀ b, b ≠ hp.objs.size + 1 → b ≠ d → H2 b = H1 b) (fun _ _ _ => False) := by
    refine ⟨_, zs, rfl, lz, upd_same, fun dx H' hd hdn e1 e2 e3 => ⟨rfl, dx, ?_, hdn, e1, e2, fun b h1 h2 => ?_⟩⟩
    · rw [upd_ne hdn] at hd; exact hd
    · rw [e3 b h1 h2, upd_ne h1]
  refine wpAny_call (PySem.XKC.xk_call F.excBase_ValueError (fun Y => PySem.HandSPX.refsVE_contains Y bm hbm) (I1.kIn _ _ hC) (PySem.W.looks_findIn I1.kIn iC) (fun self => PySem.W.bind_fn I1.kIn self tI)
    (codeAny_mono (F1.run _ X.stack _ _ ⟨[Value.ref (hp.objs.size + 1)], fs.zip ws⟩ (Value.ref (hp.objs.size + 1) :: ws) _ _ (fun _ _ _ => False) (hr.make C [] (fs.zip ws)) (I2.env0.make C [] (fs.zip ws)) (hbind _ [Value.ref (hp.objs.size + 1)] ws I2.kIn rfl (rz.length.symm.trans lz)) r2 hq) fun r s' hq' => ?_))
  cases r with
  | error er =>
    obtain ⟨_, _, _, _, _, _, _, _, _, _, _, _, z⟩ := (hq' : L2.CX X.prog X.w X.stack _ _ _ er s')
    exact z.elim
  | ok fl =>
    cases fl with
    | ret u =>
      obtain ⟨v, H2, os2, bare2, un2, hok2, rv, ev, d, hd1, hda, ea, ed, same⟩ := hq'
      subst ev
      obtain ⟨h2, g2, d2, t2, os'⟩ := s'
      refine ⟨rv, mk_end (raises_own oex.exC oex.tyC) I1 hsz kk un2 hok2 os2 bare2 ea ed hd1 ?_⟩
      have eq : upd (del H2 (hp.objs.size + 1)) d (.xd (fs.zip zs).reverse) = upd H1 d (.xd (fs.zip zs).reverse) := by
        funext b
        by_cases h1 : b = d
        · subst h1; rw [upd_same, upd_same]
        · rw [upd_ne h1, upd_ne h1]
          by_cases h2 : b = hp.objs.size + 1
          · subst h2; rw [del_same, hn]
          · rw [del_ne h2, same b h2 h1]
      rw [eq]
      exact q1 d hd1
    | next => exact False.elim hq'
    | brk => exact False.elim hq'
    | cont => exact False.elim hq'
end
/-- raise C(f = e, ..) -/
def sRaiseK (C : Addr) (fs : List Str) (ca : CA) : CS := fun z S => oDo (ca z S) z fun xs S' => if xs.length = fs.length then .exc ⟨C, fs.reverse, xs.reverse⟩ z S' else .bad
theorem zip_rev {α β : Type} : ∀ {xs : List α} {ys : List β}, xs.length = ys.length → (xs.zip ys).reverse = xs.reverse.zip ys.reverse := fun {xs ys} h => by
  rw [List.zip_eq_zipWith, List.zip_eq_zipWith, List.reverse_zipWith h]
theorem Rps.rev {I : List Addr} {B : Hp} : ∀ {vs : List V} {xs : List D}, Rps I B vs xs → Rps I B vs.reverse xs.reverse
  | [], [], _ => trivial
  | v :: vs, x :: xs, h => by
    rw [List.reverse_cons, List.reverse_cons]
    exact (Rps.rev h.2).append ⟨h.1, trivial⟩
  | [], _ :: _, h => h.elim
  | _ :: _, [], h => h.elim
section
variable {I0 : List Addr} {B0 H0 : Hp} {x : Str} {C : Addr} {fs : List Str} {k : Nat} {kws : List Keyword} {ca : CA} {p pos pos' : Pos} {e : Expr} {ce : CE} {kpos : Pos} {nm : Option Str}
theorem kw_nil : PK X [] (rdA T W aNil) := ⟨fun pos pins s σ H Q I ⟨H0, J, B, z, S, a, h⟩ => pk_nil.run pos pins s σ H Q I (Fin.here (x := ([] : List D)) (v := ([] : List V)) h a.st trivial)⟩
theorem kw_cons (ha : PE X e (rdE T W ce)) (hr : PK X kws (rdA T W ca)) : PK X (⟨nm, e, kpos⟩ :: kws) (rdA T W (aCons ce ca)) := by
  refine ⟨fun pos pins s σ H Q I h => (pk_cons ha hr).run pos pins s σ H Q I ?_⟩
  obtain ⟨H0, J, B, z, S, a, h⟩ := h
  refine bind (rep := Rp) (rep2 := Rps) (Q := Q) a h fun J B' H' S' v x g a1 r1 f1 => ?_
  refine bind (rep := Rps) (rep2 := Rps) (Q := Q) a1 f1 fun J2 B2 H2 S2 vs xs g2 a2 r2 f2 => ?_
  exact Fin.here (v := v :: vs) f2 a2.st ⟨r1.gr g2, r2⟩
theorem s_raiseK (hc : X.calm = true) (tk : Takes X W) (N : XInit X.prog X.w X.K X.mg X.base k C fs) (hr : Room (k + 1) X.A) (hg : Gl X x) (hm : X.mg x = some (.ref C)) (hkw : PK X kws (rdA T W ca))
    (hall : (backToKw pos (keywordEach kws X.env)).all (·.1.isSome) = true := by rfl) (hks : (backToKw pos (keywordEach kws X.env)).filterMap (·.1) = fs := by rfl) (hdb : (x == ("__debug__" : Str)) = false := by decide)
    (hpl : ((backTo pos (starEach [] X.env)).any (·.1) || (backToKw pos (keywordEach kws X.env)).any (·.1.isNone)) = false := by rfl) :
    PS X (.Raise (some (.Call (.Name x p) [] kws pos)) none pos') (rdS T I0 B0 H0 W (sRaiseK C fs ca)) := by
  refine ps_imp (ps_raise hc tk (pmk_kw N hr hg hm hkw hall hks hdb hpl)) ?_
  rintro D s H ⟨I, B, z, S, g, a, f⟩
  refine sdo (rep := Rps) g a f fun J B' H' S' v x g0 g1 a1 r1 f1 => ?_
  by_cases hl : x.length = fs.length
  · rw [if_pos hl] at f1
    refine ⟨by rw [r1.len]; exact hl, fun d hd => ?_⟩
    have nt : ∀ ps, (HO.xd (fs.zip v).reverse) ≠ .tbl ps := fun ps z => by cases z
    have gn := gr_new (I := J) (o := HO.xd (fs.zip v).reverse) hd a1.st.sub
    have a2 := a1.gr gn (a1.st.new hd nt)
    have hv : v.length = fs.length := by rw [r1.len]; exact hl
    refine f1 J _ _ s (.ref C) (some d) (g0.trans gn) gn.gb a2 ⟨rfl, .inr ⟨d, v.reverse, rfl, ?_, ?_, ?_⟩⟩
    · rw [upd_same]
      show some (HO.xd _) = some (HO.xd _)
      rw [zip_rev hv.symm]
    · simp [hv]
    · exact Rps.rev (r1.new a1.st hd)
  · rw [if_neg hl] at f1; exact f1.elim
/-- raise C('message'), C without own __init__ -/
def sRaiseM (C : Addr) : CS := fun z S => .exc ⟨C, [], []⟩ z S
theorem s_raiseM {m : Str} {j : Nat} {p2 : Pos} (hc : X.calm = true) (tk : Takes X W) (q : PySem.W.excIn X.K C PySem.HandSPX.veTail "ValueError.__new__" = true) (kC : PySem.W.keepIn X.K (.ref C) = true) (r : Raises X (.ref C)) (hg : Gl X x) (gC : X.mg x = some (.ref C))
    (hdb : (x == ("__debug__" : Str)) = false := by decide) : PS X (.Raise (some (.Call (.Name x p) [.Constant (.str m) j p2] [] pos)) none pos') (rdS T I0 B0 H0 W (sRaiseM C)) := by
  refine ps_imp (ps_raise hc tk (pmk_own F.excBase_ValueError q gC kC r hg hdb)) ?_
  rintro D s H ⟨I, B, z, S, g, a, f⟩
  exact f I B H s (.ref C) none g GB.rfl a ⟨rfl, .inl ⟨rfl, rfl⟩⟩
end
end CL
set_option Elab.async false
set_option linter.all false
set_option maxRecDepth 100000
set_option maxHeartbeats 2000000
/-! CL15: try, except; the exception in hand. -/
namespace CL
open PySem PySem.Spec PyProof.Rows L2
variable [TheK]
variable {L : Tl} {F : Option (Addr × List Addr × Hp × Hp)} {T : Pm} {X : Cx} {W : WX}

def isX : SV → Bool
  | .x _ => true
  | _ => false
def noX (z : Sl) : Bool := z.all fun v => !isX v
/-- the suite's end: the name goes -/
def unx (i : Nat) : O → O
  | .nx z S => if noX (z.set i .u) then .nx (z.set i .u) S else .bad
  | .bk z S => if noX (z.set i .u) then .bk (z.set i .u) S else .bad
  | .ct z S => if noX (z.set i .u) then .ct (z.set i .u) S else .bad
  | .rt d S => .rt d S
  | .exc _ _ _ => .bad
  | .bad => .bad
def sTryAs (i : Nat) (exm : Addr → Option Bool) (cb cs : CS) : CS := fun z S => match cb z S with
  | .exc x z' S' => match exm x.cls with
    | some true => unx i (cs (z'.set i (.x x)) S')
    | some false => .exc x z' S'
    | none => .bad
  | o => o
section
variable {H0 : Hp} {I : List Addr} {B H : Hp} {s : L2.St} {z : Sl} {S : Store} {i : Nat}
theorem noX_at {z : Sl} (h : noX z = true) {i : Nat} {e : Exn} (q : z[i]? = some (.x e)) : False := by
  have := List.all_eq_true.mp h _ (List.mem_of_getElem? q)
  cases this
theorem At.swap {T' : Pm} (a : At T H0 I B H s z S) (ht : T'.tabs = T.tabs) (hfn : T'.fn = T.fn) (h : ∀ (i : Nat) (e : Exn), z[i]? ≠ some (SV.x e)) : At T' H0 I B H s z S := by
  refine ⟨⟨a.sl.len, fun i o y h1 h2 => ?_, a.sl.ne⟩, by rw [ht]; exact a.st⟩
  have q := a.sl.ok i o y h1 h2
  cases y with
  | x e => exact (h i e h2).elim
  | f =>
    obtain ⟨b, I1, B1, H1, e1, e2⟩ := q
    exact ⟨b, I1, B1, H1, by rw [hfn]; exact e1, e2⟩
  | u => exact q
  | d x => exact q
  | l xs => exact q
  | m ks xs => exact q
/-- the exception is stored -/
theorem At.setX {a : Addr} {c : Value} {d : Option Addr} {e : Exn} (h : At ⟨L, none, F⟩ H0 I B H s z S) (i : Nat) (r : RpX I B c d e) : At ⟨L, some (a, c, d), F⟩ H0 I B H (s.set i (some (.ref a))) (z.set i (.x e)) S := by
  have h' : At ⟨L, some (a, c, d), F⟩ H0 I B H s z S := h.swap rfl rfl fun j e q => by
    obtain ⟨o, _, p⟩ := h.sl.get q
    obtain ⟨_, _, z, _⟩ := p
    cases z
  refine ⟨⟨by simp [h'.sl.len], fun j o y h1 h2 => ?_, fun j k b y w h1 h2 h3 h4 o1 o2 => ?_⟩, h'.st⟩
  · rw [List.getElem?_set] at h1 h2
    by_cases q : i = j
    · subst q
      rw [if_pos rfl] at h1 h2
      split at h1
      · split at h2
        · cases h1; cases h2
          exact ⟨a, d, by rw [r.1], rfl, by rw [← r.1]; exact r⟩
        · cases h2
      · cases h1
    · rw [if_neg q] at h1 h2
      exact h'.sl.ok j o y h1 h2
  · have q : ∀ {k : Nat} {w : SV}, (z.set i (.x e))[k]? = some w → isOwn w = true → k ≠ i := fun {k w} e o q => by
      subst q
      rw [List.getElem?_set_self'] at e
      cases t : z[k]? with
      | none => rw [t] at e; cases e
      | some _ => rw [t] at e; cases e; cases o
    have n1 := q h3 o1
    have n2 := q h4 o2
    rw [List.getElem?_set_ne (Ne.symm n1)] at h1 h3
    rw [List.getElem?_set_ne (Ne.symm n2)] at h2 h4
    exact h'.sl.ne j k b y w h1 h2 h3 h4 o1 o2
end
section
variable {x n : Str} {c : Value} {i : Nat} {body suite : List Stmt} {b₀ : Stmt} {np pos pos' : Pos} {exm : Addr → Option Bool} {cb cs : CS} {I0 : List Addr} {B0 H0 : Hp}
theorem s_tryAs (hs : X.stack = X.env :: X.outer) (hf : X.env.frame = some X.env.locals) (hN : X.N.Nodup) (hi : X.N[i]? = some n) (hln : X.env.kindOf n = some .local) (hc : Names X x c) (tk : Takes X W) (hexm : ∀ D b, exm D = some b → PySem.W.exmOne X.K (.ref D) c = some b)
    (hb : ∀ (W : WX) (pn : List (Addr × Obj)) (xe : Value → Shared → Prop), Takes (X.tr pn xe) W → PassesOwn (model X.prog X.w) X.A X.env xe → PSs (X.tr pn xe) body (rdS ⟨L, none, F⟩ I0 B0 H0 W cb))
    (hsu : ∀ (a : Addr) (oe : Obj) (cls : Value) (d : Option Addr) (pn : List (Addr × Obj)), Zc cls d oe → (∃ vs, oe.data = .fields vs) → PSs (X.suite a ((a, oe) :: pn)) (b₀ :: suite) (rdS ⟨L, some (a, cls, d), F⟩ I0 B0 H0 wNo cs)) :
    PS X (.Try body [.ExceptHandler (some (.Name x np)) (some n) (b₀ :: suite) pos'] [] [] pos) (rdS ⟨L, none, F⟩ I0 B0 H0 W (sTryAs i exm cb cs)) := by
  refine ps_imp (ps_try_as (tb := fun W => rdS ⟨L, none, F⟩ I0 B0 H0 W cb) (ts := fun a cls d => rdS ⟨L, some (a, cls, d), F⟩ I0 B0 H0 wNo cs) hs hf hN hi hln hc tk hb hsu) ?_
  rintro D s H ⟨I, B, z, S, g, a, f⟩
  refine ⟨I, B, z, S, g, a, ?_⟩
  unfold sTryAs at f
  cases q : cb z S with
  | nx z' S' => rw [q] at f; exact f
  | bk z' S' => rw [q] at f; exact f
  | ct z' S' => rw [q] at f; exact f
  | rt d S' => rw [q] at f; exact f
  | bad => rw [q] at f; exact f
  | exc x z' S' =>
    rw [q] at f
    dsimp only at f
    intro J B' H' s' c' dd g' gb a' rx
    cases q1 : exm x.cls with
    | none => rw [q1] at f; exact f.elim
    | some b =>
      rw [q1] at f
      refine ⟨b, by rw [rx.1]; exact hexm _ _ q1, fun hb a1 _ => ?_, fun hb => ?_⟩
      · subst hb
        dsimp only at f
        refine ⟨J, B', z'.set i (.x x), S', g', a'.setX (a := a1) i rx, ?_⟩
        have back : ∀ {J2 : List Addr} {B2 H2 : Hp} {s2 : L2.St} {z2 : Sl} {S2 : Store}, noX (z2.set i .u) = true → At ⟨L, some (a1, c', dd), F⟩ H0 J2 B2 H2 s2 z2 S2 → At ⟨L, none, F⟩ H0 J2 B2 H2 (s2.set i none) (z2.set i .u) S2 := fun {J2 B2 H2 s2 z2 S2} hx a2 =>
          (a2.setU i none).swap rfl rfl fun j e q => noX_at hx q
        cases q2 : cs (z'.set i (.x x)) S' with
        | nx z2 S2 =>
          rw [q2] at f
          simp only [unx] at f
          split at f
          · rename_i hx
            exact fun J2 B2 H2 s2 g2 gb2 a2 => f J2 B2 H2 _ g2 (gb.trans gb2) (back hx a2)
          · exact f.elim
        | bk z2 S2 =>
          rw [q2] at f
          simp only [unx] at f
          split at f
          · rename_i hx
            exact fun J2 B2 H2 s2 g2 gb2 a2 => f J2 B2 H2 _ g2 (gb.trans gb2) (back hx a2)
          · exact f.elim
        | ct z2 S2 =>
          rw [q2] at f
          simp only [unx] at f
          split at f
          · rename_i hx
            exact fun J2 B2 H2 s2 g2 gb2 a2 => f J2 B2 H2 _ g2 (gb.trans gb2) (back hx a2)
          · exact f.elim
        | rt d S2 =>
          rw [q2] at f
          exact fun J2 B2 H2 v g2 gb2 st r => f J2 B2 H2 v g2 (gb.trans gb2) st r
        | exc _ _ _ => rw [q2] at f; exact f.elim
        | bad => rw [q2] at f; exact f.elim
      · subst hb
        exact f J B' H' s' c' dd g' gb a' rx
end
/-! ### the exception in hand: isinstance, attributes -/
def cIsE (i : Nat) (kit : Addr → Option Bool) : CE := fun z S => match z[i]? with
  | some (.x e) => match kit e.cls with
    | some b => .ok (.bl b) S
    | none => .bad
  | _ => .bad
def cXf (C : Addr) (f : Str) (i : Nat) : CE := fun z S => match z[i]? with
  | some (.x e) => if e.cls = C then match (e.ns.zip e.xs).lookup f with
    | some v => .ok v S
    | none => .bad else .bad
  | _ => .bad
def rIsX (K : PySem.W.Frag) (a : Addr) (cls : Value) (d : Option Addr) : List V → Hp → VK → Prop := fun xs H Q => ∃ (c : V) (cv : Value) (b : Bool) (D : Addr), xs = [.ref a, c] ∧ (∀ u, RelV c u → u = cv) ∧ cls = .ref D ∧ ExcC K D ∧
  (∀ dd, d = some dd → ∃ fs, H dd = some (.xd fs)) ∧ PySem.W.kitOne K (.ref D) cv = some b ∧ Q (.bl b) H
theorem call_isX {a : Addr} {cls : Value} {d : Option Addr} {oe : Obj} {pn : List (Addr × Obj)} (hz : Zc cls d oe) (hf : ∃ vs, oe.data = .fields vs) : CallR (X.suite a ((a, oe) :: pn)) (.builtin "isinstance") (rIsX X.K a cls d) := by
  intro pins s σ H xs us Q I r h
  obtain ⟨c, cv, b, D, rfl, hcv, rfl, C, hd, e, q⟩ := h
  cases r with
  | cons rx rr =>
    cases rr with
    | cons rt rr =>
      cases rr
      cases rx
      have ec := hcv _ rt
      subst ec
      obtain ⟨hget, _⟩ := I.pin (a, oe) (List.mem_append.mpr (.inl List.mem_cons_self))
      obtain ⟨vs, hv⟩ := hf
      have J : ∃ od, PySem.W.InstAt s.heap a oe D od := by
        obtain ⟨oc, od, oda, osl⟩ := oe
        obtain ⟨h1, h2⟩ := hz
        dsimp only at h1 h2 hv
        subst h1 h2 hv
        cases od with
        | none => exact ⟨none, hget, rfl, rfl, trivial⟩
        | some dd =>
          obtain ⟨fs, hx⟩ := hd dd rfl
          obtain ⟨mA, ⟨o, es, ep, ho, _⟩, _⟩ := (show ObjOk X.prog X.w H s.heap dd (.xd fs) from I.hok dd _ hx)
          exact ⟨some o, hget, rfl, rfl, ho⟩
      obtain ⟨od, J⟩ := J
      have hcl : (PySem.W.clsIn X.K D).isSome = true := by
        obtain ⟨cd, hc, _⟩ := PySem.W.any_some C.hd
        rw [hc]; rfl
      exact PySem.W.kia_one (PySem.W.kitx_exc hcl C.hg C.hk C.hs C.ha C.hn C.ht C.hm) I.kIn J e (fun z => nomatch z) fun tk => ⟨.bl b, H, I.kept (t' := tk) fun _ _ z => z, rfl, q⟩
section
variable {a : Addr} {cls : Value} {d : Option Addr} {oe : Obj} {pn : List (Addr × Obj)} {i : Nat} {n x : Str} {p p1 p2 pos : Pos} {kit : Addr → Option Bool}
theorem xslot {H0 : Hp} {I : List Addr} {B H : Hp} {s : L2.St} {z : Sl} {S : Store} {e : Exn} (h : At ⟨L, some (a, cls, d), F⟩ H0 I B H s z S) (q : z[i]? = some (.x e)) : s[i]? = some (some (.ref a)) ∧ cls = .ref e.cls ∧ RpX I B (.ref e.cls) d e := by
  obtain ⟨o, h1, a', d', h2, h3, h4⟩ := h.sl.get q
  have h2' : some (a, cls, d) = some (a', Value.ref e.cls, d') := h2
  cases h2'
  subst h3
  exact ⟨h1, rfl, h4⟩
/-- isinstance(e, C), C an own class or a built-in type -/
theorem e_isE {ec : Expr} {cv : Value} {v : V} (hz : Zc cls d oe) (hf : ∃ vs, oe.data = .fields vs) (hN : X.N[i]? = some n) (hv : Vis X.env.scope n) (hec : PE (X.suite a ((a, oe) :: pn)) ec (tC v)) (hcv : ∀ u, RelV v u → u = cv)
    (hk : ∀ D b, kit D = some b → ExcC X.K D ∧ PySem.W.kitOne X.K (.ref D) cv = some b) (hg : Gl X "isinstance") (hm : X.mg "isinstance" = none) (hbt : bootBuiltins "isinstance" = some (.builtin "isinstance"))
    (hd : (n == ("__debug__" : Str)) = false := by decide) (hcd : (n == ("__classdict__" : Str)) = false := by decide)
    (he : starEach (.Name n p1 :: [ec]) X.env = (false, eval (.Name n p1) X.env) :: starEach [ec] X.env := by rfl) (he2 : starEach [ec] X.env = (false, eval ec X.env) :: starEach [] X.env := by rfl) (hpl : (backTo pos (starEach [ec] X.env)).any (·.1) = false := by rfl) :
    PE (X.suite a ((a, oe) :: pn)) (.Call (.Name "isinstance" p) [.Name n p1, ec] [] pos) (rdE ⟨L, some (a, cls, d), F⟩ wNo (cIsE i kit)) := by
  refine pe_imp (pe_callB (X := X.suite a ((a, oe) :: pn)) (call_isX (X := X) hz hf) hg hm hbt (pa_cons (pe_var (i := i) hN hv hd hcd) (pa_cons hec pa_nil he2) he) (by decide) (by decide) he hpl) ?_
  rintro s H Q ⟨H0, I, B, z, S, at_, f⟩
  unfold cIsE at f
  cases q : z[i]? with
  | none => rw [q] at f; exact f.elim
  | some y =>
    cases y with
    | x e =>
      rw [q] at f
      dsimp only at f
      obtain ⟨h1, h2, h3⟩ := xslot at_ q
      cases q2 : kit e.cls with
      | none => rw [q2] at f; exact f.elim
      | some b =>
        rw [q2] at f
        obtain ⟨k1, k2⟩ := hk _ _ q2
        refine ⟨.ref a, h1, v, cv, b, e.cls, rfl, hcv, h2, k1, fun dd hdd => ?_, k2, f.here at_.st rfl⟩
        rcases h3.2 with ⟨_, z⟩ | ⟨a', vs, e1, e2, _⟩
        · rw [z] at hdd; cases hdd
        · rw [e1] at hdd; cases hdd
          exact ⟨_, at_.st.sub _ _ e2⟩
    | u => rw [q] at f; exact f.elim
    | f => rw [q] at f; exact f.elim
    | d _ => rw [q] at f; exact f.elim
    | l _ => rw [q] at f; exact f.elim
    | m _ _ => rw [q] at f; exact f.elim
/-- e.f -/
theorem e_xf {C : Addr} {fl : Str} (hz : Zc cls d oe) (hf : ∃ vs, oe.data = .fields vs) (hN : X.N[i]? = some n) (hv : Vis X.env.scope n) (xc : XfC X.K C) (hno : PySem.W.findIn X.K (.ref C) fl = some none)
    (hd : (n == ("__debug__" : Str)) = false := by decide) (hcd : (n == ("__classdict__" : Str)) = false := by decide) (hb : attributeBase (.Name n p1) fl X.env (eval (.Name n p1) X.env) = eval (.Name n p1) X.env := by rfl) :
    PE (X.suite a ((a, oe) :: pn)) (.Attribute (.Name n p1) fl pos) (rdE ⟨L, some (a, cls, d), F⟩ wNo (cXf C fl i)) := by
  refine pe_imp (pe_xf xc hno hz hf (pe_var (X := X.suite a ((a, oe) :: pn)) (i := i) hN hv hd hcd) hb) ?_
  rintro s H Q ⟨H0, I, B, z, S, at_, f⟩
  unfold cXf at f
  cases q : z[i]? with
  | none => rw [q] at f; exact f.elim
  | some y =>
    cases y with
    | x e =>
      rw [q] at f
      dsimp only at f
      obtain ⟨h1, h2, h3⟩ := xslot at_ q
      by_cases hC : e.cls = C
      · rw [if_pos hC] at f
        cases q2 : (e.ns.zip e.xs).lookup fl with
        | none => rw [q2] at f; exact f.elim
        | some y =>
          rw [q2] at f
          rcases h3.2 with ⟨z, _⟩ | ⟨a', vs, e1, e2, e3, e4⟩
          · rw [z] at q2; cases q2
          · obtain ⟨u, l1, l2⟩ := lookup_rps e3 e4 q2
            exact ⟨.ref a, h1, rfl, by rw [h2, hC], a', _, u, e1, at_.st.sub _ _ e2, l1, f.here at_.st l2⟩
      · rw [if_neg hC] at f; exact f.elim
    | u => rw [q] at f; exact f.elim
    | f => rw [q] at f; exact f.elim
    | d _ => rw [q] at f; exact f.elim
    | l _ => rw [q] at f; exact f.elim
    | m _ _ => rw [q] at f; exact f.elim
end
end CL
set_option Elab.async false
set_option linter.all false
set_option maxRecDepth 100000
set_option maxHeartbeats 2000000
/-! CL16: a lambda handed to a def that calls it. -/
namespace CL
open PySem PySem.Spec PyProof.Rows L2 LamX
variable [TheK]

/-- the call of what was handed on: z: the maker's slots -/
def cAct (i : Nat) (act : CE) (z : Sl) : CE := fun zZ S => match zZ[i]? with
  | some .f => act z S
  | _ => .bad
/-- g(lambda: ..); cb: g's body by what its parameter does -/
def cLam (n : Nat) (cb : CE → CS) (act : CE) : CE := fun z S => match cb (cAct 0 act z) (.f :: List.replicate (n - 1) .u) S with
  | .nx _ S' => .ok .non S'
  | .rt d S' => .ok d S'
  | _ => .bad
abbrev tabsOf (TL : List (Addr × Str)) : List NdefX.NTab := TL.map fun p => (p.1, fun _ _ => p.2)
theorem tabs_iff {TL : List (Addr × Str)} {H : Hp} : NdefX.TabsN (tabsOf TL) H ↔ Tabs TL H :=
  ⟨fun t p hp => (t (p.1, fun _ _ => p.2) (List.mem_map.mpr ⟨p, hp, rfl⟩)), fun t p hp => by
    obtain ⟨q, hq, rfl⟩ := List.mem_map.mp hp
    exact t q hq⟩
section
variable {L : Tl} {I : List Addr} {B H H1 : Hp} {S : Store} {c : Addr} {q : Str}
theorem Sto.codeOut (st : Sto L I B H S) (h : H c = some (CodeO c q)) : c ∉ I := fun hm => by
  obtain ⟨k, hk⟩ := List.mem_iff_getElem?.mp hm
  have hl : k < S.length := by
    have := (List.getElem?_eq_some_iff.mp hk).1
    rw [st.len] at this; exact this
  obtain ⟨b, u, h1, h2, h3⟩ := st.at_ k S[k] (List.getElem?_eq_getElem hl)
  rw [hk] at h1; cases h1
  rw [h] at h2; cases h2
  unfold CodeO at h3
  revert h3
  generalize S[k] = m
  intro h3
  cases m with
  | lst _ => obtain ⟨_, z, _⟩ := h3; cases z
  | dct _ _ => obtain ⟨_, z, _⟩ := h3; cases z
  | ins _ _ _ => obtain ⟨_, _, z, _⟩ := h3; cases z
theorem Sto.codes (st : Sto L I B H S) {L' : Tl} (h : TbOk L' H) : Sto L' I B H S := ⟨st.len, st.nd, st.dj, st.sub, st.nt, st.at_, h⟩
/-- all but tables stay -/
theorem gr_ext (e : ExtN H H1) : Gr I B H I B H1 where
  pre := ⟨[], by simp, by simp⟩
  ext := fun _ _ h => h
  new := fun _ _ h => .inl h
  keep := fun a o h _ t => e a o h t
  dom := fun a h o q => by
    cases o with
    | tbl ps => exact ⟨ps, rfl⟩
    | _ => exact h _ (e a _ q (fun _ z => by cases z))
theorem Sto.ext {L' : Tl} (st : Sto L I B H S) (e : ExtN H H1) (t : TbOk L' H1) : Sto L' I B H1 S :=
  ⟨st.len, st.nd, st.dj, fun a o h => e _ _ (st.sub a o h) (st.nt a o h), st.nt, fun i m h => by
    obtain ⟨a, o, h1, h2, h3⟩ := st.at_ i m h
    exact ⟨a, o, h1, e _ _ h2 h3.nt, h3⟩, t⟩
end
section
variable {X : Cx} {pins : List (Addr × Obj)} {σ : L2.St} {H1 : Hp} {s1 : Shared} {TL : List (Addr × Str)}
/-- the handed function called: what its text does, at the maker's slots -/
theorem e_act {Ng : List Str} {qg : Str} {sg : Scope} {g fl c' : Addr} {cdg pmv ctv : Value} {lp : Arguments} {lb : Expr} {ls : Scope} {k : Nat} {an : Str} {pn : List (Addr × Obj)} {xe : Value → Shared → Prop} {W : WX} {act : CE} {p1 p2 : Pos}
    {H0 : Hp} {I1 : List Addr} {B1 : Hp} {z : Sl} {S1 : Store}
    (IM : Inv X pins σ H1 s1) (LS : LamS X.env.scope ls) (hob : s1.heap.get? fl = some (PySem.W.kla_obj "<lambda>" (X.env.qual ++ "<lambda>") lp lb ls (cloFrom X.env.cells ls.names []) pmv c' ctv)) (hno : H1 fl = none) (hnf : fl ∉ frs X.stack)
    (hbi : bindArgs (PySem.W.kla_fn "<lambda>" (X.env.qual ++ "<lambda>") lp lb ls (cloFrom X.env.cells ls.names []) pmv (.ref c') ctv) ⟨[], []⟩ = pure [])
    (am : At ⟨(tabsOf TL, []), none, none⟩ H0 I1 B1 H1 σ z S1)
    (tk : Takes ((cxOf C8.CX0 X.prog X.w X.K X.mg X.base Ng qg sg g cdg X.A X.stack s1 H1 C8.E0).tr pn xe) W) (hrm : Room (k + 1) (X.A.deeper (envOfC qg sg s1.heap.objs.size g cdg)))
    (hla : ∀ (A : Around) (outer : List Env) (s : Shared) (H : Hp) (E : XK), Room k (A.deeper (lamEnv X ls s.heap.objs.size fl c')) → PE (lamCx X A outer s H E ls fl c') lb (rdE ⟨(tabsOf TL, []), none, none⟩ (kW E) act))
    (hN : Ng[0]? = some an) (hv : Vis sg an) (hd : (an == ("__debug__" : Str)) = false) (hcd : (an == ("__classdict__" : Str)) = false) :
    PE ((cxOf C8.CX0 X.prog X.w X.K X.mg X.base Ng qg sg g cdg X.A X.stack s1 H1 C8.E0).tr pn xe) (.Call (.Name an p1) [] [] p2)
      (rdE ⟨(tabsOf TL, [(c', X.env.qual ++ "<lambda>")]), none, some (fl, I1, B1, H1)⟩ W (cAct 0 act z)) := by
  refine ⟨fun pinsZ sZ σZ HZ Q IZ hread => ?_⟩
  obtain ⟨HY, JZ, BZ, zZ, SZ, atZ, fin⟩ := hread
  have slot : σZ[0]? = some (some (V.ref fl)) ∧ Gr I1 B1 H1 JZ BZ HZ ∧ Fin (tabsOf TL, [(c', X.env.qual ++ "<lambda>")]) Rp W σZ JZ BZ HZ Q (act z SZ) := by
    unfold cAct at fin
    cases q : zZ[0]? with
    | none => rw [q] at fin; exact fin.elim
    | some y =>
      cases y with
      | f =>
        rw [q] at fin
        obtain ⟨o, e1, b, Ib, Bb, Hb, e2, e3, e4, _⟩ := atZ.sl.get q
        cases e2
        subst e3
        exact ⟨e1, e4, fin⟩
      | u => rw [q] at fin; exact fin.elim
      | d _ => rw [q] at fin; exact fin.elim
      | l _ => rw [q] at fin; exact fin.elim
      | m _ _ => rw [q] at fin; exact fin.elim
      | x _ => rw [q] at fin; exact fin.elim
  obtain ⟨hs0, grz, fin⟩ := slot
  have hcode : HZ c' = some (CodeO c' (X.env.qual ++ "<lambda>")) := atZ.st.tb.2 (c', X.env.qual ++ "<lambda>") (by simp)
  have nin := atZ.st.codeOut hcode
  have st0 : Sto (tabsOf TL, []) JZ BZ HZ SZ := atZ.st.codes ⟨atZ.st.tb.1, by simp⟩
  have back : ∀ {J B' H' S'}, Gr JZ BZ HZ J B' H' → Sto (tabsOf TL, []) J B' H' S' → Sto (tabsOf TL, [(c', X.env.qual ++ "<lambda>")]) J B' H' S' := fun g st => st.codes ⟨st.tb.1, fun p hp => by
    have : p = (c', X.env.qual ++ "<lambda>") := by simpa using hp
    subst this
    exact g.keep c' _ hcode nin codeO_ne⟩
  have told : rdE ⟨(tabsOf TL, []), none, none⟩ (kW (WE W σZ)) act σ HZ Q := by
    refine ⟨H0, JZ, BZ, z, SZ, am.gr grz st0, ?_⟩
    cases q : act z SZ with
    | ok d S2 => rw [q] at fin; exact fun J B' H' v g st r => fin J B' H' v g (back g st) r
    | exc e S2 => rw [q] at fin; exact fun J B' H' c dd g st r => fin J B' H' c dd g (back g st) r
    | bad => rw [q] at fin; exact fin.elim
  refine wpAny_Call_Name_kw (thn ((pe_var (pos := p1) (i := 0) hN hv hd hcd).run pinsZ sZ σZ HZ (fun v Hv => v = .ref fl ∧ Hv = HZ) IZ ⟨.ref fl, hs0, rfl, rfl⟩) fun u s2 ⟨v, Hv, IV, rv, ev, eH⟩ => ?_)
  subst ev
  subst eH
  obtain rfl : u = Value.ref fl := rv
  have ob2 := IV.base.keep fl _ hob hno hnf (fun z => nomatch (show fl ∈ ([] : List Addr) from z))
  refine PySem.W.callWith_F0 ⟨_, _, _, _, ob2⟩ ?_
  obtain ⟨⟨oc, vs, t, co1, co2, co3⟩, _, _⟩ := IV.hok c' _ hcode
  have run : codeAny (model X.prog X.w) (X.A.deeper (envOfC qg sg s1.heap.objs.size g cdg)) (.call (.ref fl) ⟨[], []⟩) (CR (L2.CX X.prog X.w) (envOfC qg sg s1.heap.objs.size g cdg :: X.stack) X.prog X.w Hv s2 Q (WE W σZ)) s2 := by
    refine PySem.W.kla_callFunE hrm.depth ob2 rfl LS.co LS.gen rfl ⟨c', oc, vs, t, rfl, co1, co2, co3⟩ ?_
    rw [hbi]
    refine wpAny_pure (wpAny_newFunctionEnv (fun y hy => (LS.own y hy).2) (fun y hy => absurd hy (by simp)) (fun hN1 n1 n2 => ⟨IV.nolimit.fresh _ n2, ?_⟩) LS.kind)
    have kept : ∀ b o, s2.heap.get? b = some o → hN1.get? b = some o := fun b o e => n2.extBut b o (Nat.ne_of_lt (Heap.lt_size e)) (Heap.get?_push_of_some _ e)
    have J := lam_start2 (E := WE W σZ) (c' := c') (f := fl) (tk := s2.toks + ([] : List (Str × Value)).length) IM LS IV.env0 hrm.hd (show Un (frs X.stack) [] H1 Hv s1.heap s2.heap from IV.base) n1 kept
    refine PySem.W.kla_codeExpr (wpAny_mono ((hla _ _ s2 Hv _ (hrm.deeper _)).run [] _ _ Hv Q J told) (fun v s3 hq => ?_) fun e s3 hq => hq)
    obtain ⟨w', H', J', rv, q⟩ := hq
    exact ⟨w', H', J'.os, J'.bare, J'.base, J'.hok, rv, q⟩
  refine wpAny_call (codeAny_mono run fun r s3 hq => ?_)
  cases r with
  | error e => exact passAt tk σZ pinsZ Hv s2 e s3 IV hq
  | ok fl2 =>
    cases fl2 with
    | ret u => exact IV.after hq
    | next => exact False.elim hq
    | brk => exact False.elim hq
    | cont => exact False.elim hq
end
section
variable {X : Cx} {W : WX} {TL : List (Addr × Str)}
theorem e_lam {x an : Str} {g c P : Addr} {fd : FuncData} {st : Stmt} {k : Nat} {Ng : List Str} {lp : Arguments} {lb : Expr} {ls : Scope} {p lq pos : Pos} {cb : CE → CS} {act : CE} (F : Fun X.K x x st g fd) (Sg : FnScope Ng [an] (defScope st)) (hN : Ng[0]? = some an) (hva : Vis (defScope st) an) (hbd : L2.Binds X.K fd [an] [])
    (hg : Gl X x) (hm : X.mg x = some (.ref g))
    (hG : ∀ (cdg : Value) (s : Shared) (H : Hp) (I0 : List Addr) (B0 : Hp) (L : Tl) (FF : Option (Addr × List Addr × Hp × Hp)) (ac : CE), Room (k + 1) (X.A.deeper (envOfC x (defScope st) s.heap.objs.size g cdg)) →
      (∀ (W : WX) (pn : List (Addr × Obj)) (xe : Value → Shared → Prop) (p1 p2 : Pos), Takes ((cxOf C8.CX0 X.prog X.w X.K X.mg X.base Ng x (defScope st) g cdg X.A X.stack s H C8.E0).tr pn xe) W →
        PE ((cxOf C8.CX0 X.prog X.w X.K X.mg X.base Ng x (defScope st) g cdg X.A X.stack s H C8.E0).tr pn xe) (.Call (.Name an p1) [] [] p2) (rdE ⟨L, none, FF⟩ W ac)) →
      PSs (cxOf C8.CX0 X.prog X.w X.K X.mg X.base Ng x (defScope st) g cdg X.A X.stack s H C8.E0).nox (defBody st) (rdS ⟨L, none, FF⟩ I0 B0 H wNo (cb ac)))
    (TB : TabB X.base X.mg c P) (hcode : X.env.code = .ref c) (hmT : (P, X.env.qual ++ "<lambda>") ∈ TL) (hu : ∀ p ∈ TL, p.1 = P → p.2 = X.env.qual ++ "<lambda>") (hr : Room (k + 2) X.A) (LS : LamS X.env.scope ls) (hdef : defaultsOf lp X.env = ([], []))
    (hbi : ∀ (q : Str) (cl : List (Str × Addr)) (pm cv ctv : Value), bindArgs (PySem.W.kla_fn "<lambda>" q lp lb ls cl pm cv ctv) ⟨[], []⟩ = pure [])
    (hla : ∀ (A : Around) (outer : List Env) (s : Shared) (H : Hp) (E : XK) (f c' : Addr), Room k (A.deeper (lamEnv X ls s.heap.objs.size f c')) → PE (lamCx X A outer s H E ls f c') lb (rdE ⟨(tabsOf TL, []), none, none⟩ (kW E) act))
    (hdb : (x == ("__debug__" : Str)) = false := by decide) (hd : (an == ("__debug__" : Str)) = false := by decide) (hcd : (an == ("__classdict__" : Str)) = false := by decide) :
    PE X (.Call (.Name x p) [.Lambda lp lb ls lq] [] pos) (rdE ⟨(tabsOf TL, []), none, none⟩ W (cLam Ng.length cb act)) := by
  refine ⟨fun pins s σ H Q I hread => ?_⟩
  obtain ⟨H0, I0, B, z, S, at_, fin⟩ := hread
  obtain ⟨oc, od, kV, doc, pmv, ann, cdv, ct, osl, rfl, lk, hcg⟩ := F.ex
  refine wpAny_Call_Name_kw (ld_glob I hg hm ?_ hdb)
  refine PySem.W.callWith_K (h₀ := X.base) I.ok.mod.kin F.kp ?_ (by rfl) (by rfl)
  show wpAny _ _ (spliced ((false, eval (.Lambda lp lb ls lq) X.env) :: backTo pos (starEach [] X.env))) _ _ s
  refine Calls.spliced_cons (lam_make2 I TB hcode hmT hu (tabs_iff.mp at_.st.tb.1) hdef (LS.has I.ok) fun fl c' pm' ctv H1 s1 IM eN tb1 hob hno hnf hco => ?_)
  refine Calls.spliced_nil ⟨IM.kIn, ?_⟩
  have t1 : TbOk (tabsOf TL, [(c', X.env.qual ++ "<lambda>")]) H1 := ⟨tabs_iff.mpr tb1, fun p hp => by
    have : p = (c', X.env.qual ++ "<lambda>") := by simpa using hp
    subst this
    exact hco⟩
  have gr1 : Gr I0 B H I0 B H1 := gr_ext eN
  have st1 := at_.st.ext eN t1
  have am : At ⟨(tabsOf TL, []), none, none⟩ H0 I0 B H1 σ z S := at_.gr gr1 (at_.st.ext eN ⟨tabs_iff.mpr tb1, by simp⟩)
  have rc : codeAny (model X.prog X.w) X.A (.call (.ref g) ⟨[.ref fl], []⟩) (CR C8.CX0 X.stack X.prog X.w H1 s1 Q C8.E0) s1 := by
    refine run_ofS (N := Ng) (ps := [an]) (us := [.ref fl]) (vs := [.ref fl]) lk hcg Sg hr IM.env0 (hbd s1 [.ref fl] IM.kIn rfl) (.cons rfl .nil) rfl fun hr' => ?_
    have body := hG cdv s1 H1 I0 B (tabsOf TL, [(c', X.env.qual ++ "<lambda>")]) (some (fl, I0, B, H1)) (cAct 0 act z) hr' fun W pn xe p1 p2 tk =>
      e_act IM LS hob hno hnf (hbi _ _ _ _ _) am tk hr' (fun A outer s H E hr2 => hla A outer s H E fl c' hr2) hN hva hd hcd
    refine ⟨_, body.nox, I0, B, .f :: List.replicate (Ng.length - 1) .u, S, Gr.refl _ _ _, ?_, ?_⟩
    · refine ⟨⟨?_, fun i o y h1 h2 => ?_, fun i j a y w h1 h2 h3 h4 o1 o2 => ?_⟩, st1⟩
      · unfold L2.start
        have : 1 ≤ Ng.length := (List.getElem?_eq_some_iff.mp hN).1
        simp
      · cases i with
        | zero =>
          cases h2
          unfold L2.start at h1
          cases h1
          exact ⟨fl, I0, B, H1, rfl, rfl, Gr.refl _ _ _, fun _ h => h⟩
        | succ i =>
          rw [List.getElem?_cons_succ, List.getElem?_replicate] at h2
          split at h2
          · cases h2; trivial
          · cases h2
      · cases i with
        | zero => cases h3; cases o1
        | succ i =>
          rw [List.getElem?_cons_succ, List.getElem?_replicate] at h3
          split at h3
          · cases h3; cases o1
          · cases h3
    · unfold cLam at fin
      cases q : cb (cAct 0 act z) (.f :: List.replicate (Ng.length - 1) .u) S with
      | nx z' S' =>
        rw [q] at fin
        exact fun J B' H' s' g gb a => fin J B' H' .non (gr1.trans g) (a.st.codes ⟨a.st.tb.1, by simp⟩) rfl
      | rt d S' =>
        rw [q] at fin
        exact fun J B' H' v g gb st r => fin J B' H' v (gr1.trans g) (st.codes ⟨st.tb.1, by simp⟩) r
      | bk _ _ => rw [q] at fin; exact fin.elim
      | ct _ _ => rw [q] at fin; exact fin.elim
      | exc _ _ _ => rw [q] at fin; exact fin.elim
      | bad => rw [q] at fin; exact fin.elim
  refine wpAny_call (codeAny_mono rc fun r s2 hq => ?_)
  cases r with
  | error e => exact (show False from hq).elim
  | ok fl2 =>
    cases fl2 with
    | ret u => exact IM.after hq
    | next => exact False.elim hq
    | brk => exact False.elim hq
    | cont => exact False.elim hq
end
end CL
set_option Elab.async false
set_option linter.all false
set_option maxRecDepth 100000
set_option maxHeartbeats 2000000
/-! CL17: enumerate(tuple), enumerate(list). -/
namespace PySem
namespace ENT
open Sem (wp)
/-- enumerate(v): iter(v) is a new object o -/
theorem enew {v : Value} {o : Obj} {HH : Heap → Prop} (Bg : Begins v o HH) :
    Meets (Builtin.«enumerate.__new__» ⟨[.type "enumerate", v], []⟩) (fun _ R s => HH s.heap ∧
      R (.ok (.ret (.ref (s.heap.push o).objs.size))) { s with heap := (s.heap.push o).push { cls := .type "enumerate", data := .fields #[.none, .bool false, .ref s.heap.objs.size, rawInt 0, .none, .none] } }) :=
  .of_wp fun prog w A R s h => by
    obtain ⟨hp, g, d, tk, os⟩ := s
    obtain ⟨h0, h⟩ := h
    have hsub := sub_enumerate
    have q : ∀ {A' : Around} {E : Value → Shared → Prop} {Q : Value → Shared → Prop}, Q (.ref hp.objs.size) ⟨hp.push o, g, d, tk, os⟩ → wpAny (model prog w) A' (pyIter v) Q E ⟨hp, g, d, tk, os⟩ :=
      fun z => Bg.iter prog w _ _ ⟨hp, g, d, tk, os⟩ _ h0 z
    wp_walk
    refine wpAny_stack_any fun st => wpAny_pure ?_
    split
    · rename_i c _ _ _ _ _
      cases (c == Value.type "enumerate")
      · wp_walk using q
        exact ⟨_, rfl, h⟩
      · wp_walk using q
        exact ⟨_, rfl, h⟩
    · wp_walk using q
      exact ⟨_, rfl, h⟩
section
variable {prog : Program} {w : World} {A : Around} {E : Value → Shared → Prop} {s : Shared}
theorem call_enum {v : Value} {o : Obj} {HH : Heap → Prop} {Q : Value → Shared → Prop} (Bg : Begins v o HH) (h0 : HH s.heap)
    (h : ∀ h', IsEnum h' (s.heap.objs.size + 1) s.heap.objs.size 0 .none → h'.get? s.heap.objs.size = some o → h'.objs.size = s.heap.objs.size + 2 →
      (∀ b u, s.heap.get? b = some u → h'.get? b = some u) → Q (.ref (s.heap.objs.size + 1)) { s with heap := h' }) :
    wpAny (model prog w) A (call (.type "enumerate") [v]) Q E s := by
  have hz : (s.heap.push o).objs.size = s.heap.objs.size + 1 := Heap.size_push ..
  have ho : (s.heap.push o).get? s.heap.objs.size = some o := Heap.get?_push_size _ Bg.free
  refine callType_new F.called_enumerate (by decide) (F.typeCall_enumerate_1 _) (F.newCall_enumerate_1 _) (fun obj => F.args_object_init_2 obj _) F.entry_enumerate_new (enew Bg) ⟨h0, ?_⟩
  show _ ∧ _
  rw [hz]
  have he : IsEnum ((s.heap.push o).push { cls := .type "enumerate", data := .fields #[.none, .bool false, .ref s.heap.objs.size, rawInt 0, .none, .none] }) (s.heap.objs.size + 1) s.heap.objs.size 0 .none := by
    have q := Heap.get?_push_size (s.heap.push o) (o := { cls := .type "enumerate", data := .fields #[.none, .bool false, .ref s.heap.objs.size, rawInt 0, .none, .none] }) rfl
    rw [hz] at q
    exact q
  exact ⟨⟨_, he, rfl⟩, h _ he (Heap.get?_push_of_some _ ho) (by rw [Heap.size_push, hz]) fun b u x => Heap.get?_push_of_some _ (Heap.get?_push_of_some _ x)⟩
end
end ENT
end PySem
namespace CL
open PySem PySem.Spec PyProof.Rows L2
variable [TheK]
/-- the tuple at a, each item in a new pair -/
def IteT (K : PySem.W.Frag) (a : Addr) : It :=
  ⟨fun i H => ∃ (xs : List V) (x : V), SqT K H a xs ∧ xs[i]? = some x, fun i H v H' => ∃ p x, v = .ref p ∧ H p = none ∧ H' = upd H p (.tup [.int (i : Nat), x]) ∧ ∀ xs, SqT K H a xs → xs[i]? = some x, fun i H => ∃ xs : List V, SqT K H a xs ∧ xs.length = i⟩
theorem turn_enT {P : Program} {w : World} {K : PySem.W.Frag} {tgs : List Expr} {kk : Nat} {tpos : Pos} (a e it : Addr) :
    Turn P w K (.Tuple tgs kk tpos) (IteT K a) [e, it] e (fun i h => (∃ old, IsEnum h e it ((i : Nat) : Int) old) ∧ h.IsTupleIter it a i ∧ e ≠ it ∧ a ≠ it ∧ a ≠ e) where
  mem := by simp
  obj := fun i h st b hb => by
    obtain ⟨⟨old, h1⟩, ⟨o, h2, _, h3⟩, _⟩ := st
    rcases (show b = e ∨ b = it by simpa using hb) with z | z
    · subst z
      exact ⟨_, h1, fun v q => nomatch q⟩
    · subst z
      exact ⟨o, h2, fun v q => by rw [h3] at q; cases q⟩
  keep := fun i h h' st k => by
    obtain ⟨⟨old, h1⟩, h2, h3⟩ := st
    exact ⟨⟨old, k e (by simp) _ h1⟩, h2.at fun o q => k it (by simp) o q, h3⟩
  item := by
    intro X hP hw hK hc i pins s σ H E I hf st hg
    subst hP hw hK
    obtain ⟨⟨old, he⟩, hit, hne, hai, hae⟩ := st
    obtain ⟨xs, x, hq, hx⟩ := hg
    obtain ⟨its, rv, p, hz⟩ := I.tuple hq
    obtain ⟨u, hu, ru⟩ := rv.get hx
    have pt : s.heap.IsTuple a its.toArray := p
    have D := Draws.tuple (prog := X.prog) (w := X.w) (A := X.A.in1) (I.ok.hd hc) it a hai its.toArray
    have hel : e < s.heap.objs.size := Heap.lt_size he
    have hil : it < s.heap.objs.size := by obtain ⟨_, q, _⟩ := hit; exact Heap.lt_size q
    have hlt : i < its.toArray.size := by
      have := (List.getElem?_eq_some_iff.mp hu).1
      simpa using this
    refine wpAny_pyNext_enum_itemC D he ⟨hit, pt⟩ hlt hne (by simp [hne, Ne.symm hae]) fun y h1 tk hy ho hst hT hsz hk => ?_
    have hyu : y = u := by
      have q : its.toArray[i]? = some y := hy
      simp only [List.getElem?_toArray] at q
      rw [hu] at q; exact (Option.some.inj q).symm
    subst hyu
    refine ⟨_, rfl, wpAny_letOwnedTupleGo_enum (s := { s with heap := h1, toks := tk + 1 }) ho fun h2 he2 sb => ?_⟩
    have hT2 : h2.get? s.heap.objs.size = some { cls := .type "tuple", data := .seq #[.int i tk, y] } := (sb.2 _ (Nat.ne_of_gt hel)).trans hT
    have new : ObjOk X.prog X.w (upd H s.heap.objs.size (.tup [.int (i : Nat), x])) h2 s.heap.objs.size (.tup [.int (i : Nat), x]) :=
      ⟨by show 2 ≤ sizeLine; decide, [.int i tk, y], .cons ⟨_, rfl⟩ (.cons ru .nil), ⟨_, hT2, rfl, _, rfl⟩⟩
    have I1 : Inv X pins σ (upd H s.heap.objs.size (.tup [.int (i : Nat), x])) { s with heap := h2, toks := tk + 1 } :=
      I.turnedNew (ch := [e, it]) (fun b ob hb q => by
        have hb1 : b ≠ e := fun z => hb (by simp [z])
        have hb2 : b ≠ it := fun z => hb (by simp [z])
        exact (sb.2 b hb1).trans (hk b ob hb1 hb2 q)) hf (Nat.le_refl _) new
    refine ⟨.ref s.heap.objs.size, _, I1, rfl, ⟨_, x, rfl, I.hok.fresh (Nat.le_refl _), rfl, fun ys hy => by rw [I.tuple_inj hy hq]; exact hx⟩, ⟨⟨y, ?_⟩, hst.1.at fun o q => (sb.2 it (Ne.symm hne)).trans q, hne, hai, hae⟩, fun b hb => ?_⟩
    · have e1 : ((i + 1 : Nat) : Int) = (i : Int) + 1 := by omega
      rw [e1]
      exact he2
    · have hb' : b < s.heap.objs.size := by
        rcases (show b = e ∨ b = it by simpa using hb) with z | z
        · rw [z]; exact hel
        · rw [z]; exact hil
      rw [upd_ne (Nat.ne_of_lt hb')]
      exact (hf b hb).1
  done := by
    intro X hP hw hK hc i pins s σ H E I hf st hg
    subst hP hw hK
    obtain ⟨⟨old, he⟩, hit, hne, hai, hae⟩ := st
    obtain ⟨xs, hq, hx⟩ := hg
    obtain ⟨its, rv, p, hz⟩ := I.tuple hq
    have pt : s.heap.IsTuple a its.toArray := p
    obtain ⟨f0, f1, f2, f3, f4, f5⟩ := hf it (by simp)
    have hl := rv.length
    have D0 := Draws.tuple (prog := X.prog) (w := X.w) (A := X.A.in1) (I.ok.hd hc) it a hai its.toArray
    have es : its.toArray.size = i := by simp; omega
    rw [es] at D0
    exact wpAny_pyNext_enum_endD D0 he ⟨hit, pt⟩ fun h' eb => ⟨rfl, I.turned (t' := s.toks) (fun b o hb q => eb b o hb q) f0 f1 f3 f4 f5⟩
  self := fun A i s Q E st h => by
    obtain ⟨⟨_, he⟩, _⟩ := st
    exact wpAny_pyIter_enum he h
def iEnT (K : PySem.W.Frag) (ta : TA) : TI := fun σ H R => ta σ H fun vs H1 => ∃ a xs, vs = [.ref a] ∧ ((SqL K H1 a xs ∧ R (Ite K a) H1) ∨ (SqT K H1 a xs ∧ R (IteT K a) H1))
theorem pi_enA {X : Cx} {e : Expr} {ta : TA} {p pos tpos : Pos} {tgs : List Expr} {kk : Nat} (hg : Gl X "enumerate") (hm : X.mg "enumerate" = none) (ha : PA X [e] ta) (hs : starEach [e] X.env = [(false, eval e X.env)] := by rfl) :
    PI X (.Tuple tgs kk tpos) (.Call (.Name "enumerate" p) [e] [] pos) (iEnT X.K ta) := by
  refine ⟨fun pins s σ H R I h => ?_⟩
  refine Call_ (ld_blt I hg hm boot_enumerate (PyProof.Rows.callWith_type1 (thn (ha.run pos pins s σ H _ I h) fun us s1 ⟨vs, H1, I1, r1, q1⟩ => ?_) hs rfl))
  obtain ⟨a, xs, rfl, q1⟩ := q1
  cases r1 with
  | cons r rr =>
    cases rr
    cases r
    have two : ∀ b, b ∈ [s1.heap.objs.size + 1, s1.heap.objs.size] → FpOk X pins H1 b := fun b hb => by
      have hle : s1.heap.objs.size ≤ b := by
        rcases (show b = s1.heap.objs.size + 1 ∨ b = s1.heap.objs.size by simpa using hb) with z | z
        · rw [z]; exact Nat.le_add_right _ _
        · rw [z]; exact Nat.le_refl _
      exact I1.fpOk hle (I1.hok.fresh hle)
    rcases q1 with ⟨hq, q⟩ | ⟨hq, q⟩
    · obtain ⟨its, rv, p', _⟩ := I1.list hq
      refine ENT.call_enum (begins_list a its.toArray) p'.isList fun h' he hit hsz hk => wpAny_pyIter_enum he ?_
      exact ⟨s1.heap.objs.size + 1, [s1.heap.objs.size + 1, s1.heap.objs.size], _, _, H1, rfl, I1.kept (t' := s1.toks) hk, turn_enum a (s1.heap.objs.size + 1) s1.heap.objs.size, ⟨⟨.none, he⟩, ⟨_, hit, rfl, rfl⟩, Nat.succ_ne_self _⟩, two, q⟩
    · obtain ⟨its, rv, p', _⟩ := I1.tuple hq
      have pt : s1.heap.IsTuple a its.toArray := p'
      obtain ⟨o, ho, _⟩ := id pt
      have hlt := Heap.lt_size ho
      refine ENT.call_enum (begins_tuple a its.toArray) pt fun h' he hit hsz hk => wpAny_pyIter_enum he ?_
      exact ⟨s1.heap.objs.size + 1, [s1.heap.objs.size + 1, s1.heap.objs.size], _, _, H1, rfl, I1.kept (t' := s1.toks) hk, turn_enT a (s1.heap.objs.size + 1) s1.heap.objs.size, ⟨⟨.none, he⟩, ⟨_, hit, rfl, rfl⟩, Nat.succ_ne_self _, Nat.ne_of_lt hlt, Nat.ne_of_lt (Nat.lt_succ_of_lt hlt)⟩, two, q⟩
variable {L : Tl} {T : Pm} {X : Cx} {W : WX}
theorem walk_enT {K : PySem.W.Frag} {a : Addr} {xs : List V} : Walk (IteT K a) xs.length (fun H => SqT K H a xs) (YPair (fun i => some (.int (i : Nat))) (fun i => xs[i]?)) := by
  refine ⟨fun i _ hi q => ⟨xs, xs[i], q, by simp [hi]⟩, fun _ q => ⟨xs, q, rfl⟩, fun i H v H' _ q y => ?_⟩
  obtain ⟨p, x, h1, h2, h3, h4⟩ := y
  exact ⟨p, .int (i : Nat), x, h1, h2, h3, rfl, h4 xs q⟩
theorem enum_at {xs : List D} {i : Nat} (h : i < xs.length) : (enumD xs)[i]? = some (.tup [.int (i : Nat), xs[i]]) := by
  unfold enumD
  simp [h]
theorem i_enum {tgs : List Expr} {kk : Nat} {tpos p pos : Pos} {e : Expr} {ce : CE} (hg : Gl X "enumerate") (hm : X.mg "enumerate" = none) (he : PE X e (rdE T W ce)) (hs : starEach [e] X.env = [(false, eval e X.env)] := by rfl) :
    PI X (.Tuple tgs kk tpos) (.Call (.Name "enumerate" p) [e] [] pos) (rdI T W (CL.iEnum ce)) := by
  refine pi_imp (pi_enA hg hm (pa_cons he pa_nil hs) hs) ?_
  rintro s H R ⟨H0, I, B, z, S, a, h⟩
  refine bindI (rep := Rp) a h fun J B' H' S' v x g a1 r1 f1 => ?_
  cases x with
  | tup xs =>
    obtain ⟨c, vs, rfl, hc, hb, rv⟩ := Rp.tup a1.st r1
    refine ⟨c, vs, rfl, .inr ⟨SqT.of hc, f1 J B' H' _ (Gr.refl _ _ _) a1.st (Wk.pairs walk_enT (by rw [rv.len]; simp [enumD]) (fun i x y e1 e2 hi => ?_) fun g st => SqT.of (st.sub _ _ (g.ext _ _ hb)))⟩⟩
    cases e1
    have hl : i < xs.length := by rw [← rv.len]; exact hi
    exact ⟨.int (i : Nat), xs[i], enum_at hl, rfl, rv.at_ e2 (List.getElem?_eq_getElem hl)⟩
  | lst xs =>
    obtain ⟨c, vs, rfl, hc, hb, rv⟩ := Rp.lst a1.st r1
    refine ⟨c, vs, rfl, .inl ⟨SqL.of hc, f1 J B' H' _ (Gr.refl _ _ _) a1.st (Wk.pairs walk_enum (by rw [rv.len]; simp [enumD]) (fun i x y e1 e2 hi => ?_) fun g st => SqL.of (st.sub _ _ (g.ext _ _ hb)))⟩⟩
    cases e1
    have hl : i < xs.length := by rw [← rv.len]; exact hi
    exact ⟨.int (i : Nat), xs[i], enum_at hl, rfl, rv.at_ e2 (List.getElem?_eq_getElem hl)⟩
  | _ => exact f1.elim
end CL
set_option Elab.async false
set_option linter.all false
set_option maxRecDepth 100000
set_option maxHeartbeats 2000000
/-! CL18: new objects; isinstance; list methods that read; types as values; lists laid into the store. -/
namespace CL
open PySem PySem.Spec PyProof.Rows L2
variable [TheK]
variable {L : Tl} {T : Pm} {X : Cx} {W : WX}
section
variable {k : Nat} {f C : Addr} {fd : FuncData} {ps : List Str} {g : G} {x : Str} {p pos apos : Pos} {e o : Expr} {es : List Expr} {co ce : CE} {ca : CA} {E : XK}
/-- C(e, ..) -/
theorem e_make (M : Mk X.K C f) (F : FnC X.prog X.w X.K X.mg X.base T.tabs k f fd ps g) (hr : Room (k + 1) X.A) (hg : Gl X x) (hm : X.mg x = some (.ref C)) (hb : L2.Binds X.K fd ps []) (hx : Passes (L2.CX X.prog X.w) X E) (ha : PA X (e :: es) (rdA T (kW E) ca)) {n : Nat} (hn : AN ca n) (hp : ps.length = n + 1)
    (hdb : (x == ("__debug__" : Str)) = false := by decide) (he : starEach (e :: es) X.env = (false, eval e X.env) :: starEach es X.env := by rfl) (hpl : (backTo pos (starEach es X.env)).any (·.1) = false := by rfl) :
    PE X (.Call (.Name x p) (e :: es) [] pos) (rdE T (kW E) (cMake C g ca)) := by
  refine pe_imp (pe_make M F hr hg hm hb .nil hx ha hdb he hpl) ?_
  rintro s H Q ⟨H0, I, B, z, S, a, h⟩
  unfold cMake at h
  have hn' := hn z S
  cases q : ca z S with
  | bad => rw [q] at h; exact h.elim
  | exc y S' =>
    refine ⟨H0, I, B, z, S, a, ?_⟩
    rw [q] at h ⊢
    exact h
  | ok ys S' =>
    refine ⟨H0, I, B, z, S, a, ?_⟩
    rw [q] at h ⊢
    simp only [R.bind] at h
    intro J B' H' vs g1 st1 r1 xa dx hxa hdx hne
    rw [List.append_nil]
    have a1 := a.gr g1 st1
    have h := Fin.gr h g1
    have a2 := a1.keep (keep_new (o := HO.own xa) hdx)
    have n2 : upd H' dx (.own xa) xa = none := by rw [upd_ne (Ne.symm hne)]; exact hxa
    have a3 := a2.grow (u := .ins C dx []) (m := .ins C [] []) n2 ⟨dx, [], rfl, rfl, trivial⟩
    have gg : Gr J B' H' (J ++ [xa]) B' (upd (upd H' dx (.own xa)) xa (.ins C dx [])) := by
      refine ⟨⟨[xa], rfl, fun b hb => ?_⟩, fun _ _ h => h, fun _ _ h => .inl h, fun b o hb _ _ => keep_new n2 b o (keep_new hdx b o hb), fun b hb => (hb.down fun q => ?_).down fun q => ?_⟩
      · have : b = xa := by simpa using hb
        subst this; exact .of hxa
      · subst q; exact .of n2
      · subst q; exact .of hdx
    have rx : Rp (J ++ [xa]) B' (.ref xa) (.ptr S'.length) := ⟨xa, by rw [← st1.len]; simp, rfl⟩
    refine call_sp (W := kW E) (s := s) (ds := .ptr S'.length :: ys) (by simp [r1.len, hn' ys S' q, hp]) a3 ⟨rx, r1.gr gg⟩ ?_ fun _ _ _ h => h
    cases q2 : g (.ptr S'.length :: ys) (S' ++ [.ins C [] []]) with
    | bad => rw [q2] at h; exact h.elim
    | exc y S2 => rw [q2] at h; exact fun J2 B2 H2 c dd g2 => h J2 B2 H2 c dd (gg.trans g2)
    | ok d S2 =>
      rw [q2] at h
      intro J2 B2 H2 v g2 st2 rv
      cases d with
      | non => exact ⟨rv, h J2 B2 H2 (.ref xa) (gg.trans g2) st2 (rx.gr g2)⟩
      | _ => exact h.elim
/-- a new list, laid into the store -/
def cToP (c : CE) : CE := fun z S => (c z S).bind fun d S' => match d with
  | .lst xs => .ok (.ptr S'.length) (S' ++ [.lst xs])
  | _ => .bad
theorem e_toP (he : PE X e (rdF T W ce)) : PE X e (rdE T W (cToP ce)) := by
  refine pe_imp he ?_
  rintro s H Q ⟨H0, I, B, z, S, a, h⟩
  unfold cToP at h
  refine ⟨H0, I, B, z, S, a, ?_⟩
  cases q : ce z S with
  | bad => rw [q] at h; exact h.elim
  | exc y S' => rw [q] at h; exact h
  | ok d S' =>
    rw [q] at h
    cases d with
    | lst xs =>
      intro J B' H' p vs g st hp r
      exact h (J ++ [p]) B' _ (.ref p) (g.trans (gr_grow st hp)) ((a.gr g st).grow (u := .lst vs) (m := .lst xs) hp ⟨vs, rfl, r.mono ⟨[p], rfl⟩ (xs := xs) fun _ _ h => h⟩).st ⟨p, by rw [← st.len]; simp, rfl⟩
    | _ => exact h.elim
end
/-! ### types as values, isinstance -/
theorem e_ty {x : Str} {n : String} {pos : Pos} (hg : Gl X x) (hm : X.mg x = none) (hv : bootBuiltins x = some (.type n)) (hn : x ≠ "__name__" := by decide) (hd : (x == ("__debug__" : Str)) = false := by decide) : PE X (.Name x pos) (rdE T W (cK (.ty n))) :=
  e_k (pe_bltn (v := .ty n) hg hm hv rfl hn hd) fun _ _ => rfl
theorem callR_or {fn : Value} {r r' : List V → Hp → VK → Prop} (h : CallR X fn r) (h' : CallR X fn r') : CallR X fn (fun xs H Q => r xs H Q ∨ r' xs H Q) := fun pins s σ H xs us Q I rv q => q.elim (h pins s σ H xs us Q I rv) (h' pins s σ H xs us Q I rv)
theorem tyX_of {K : PySem.W.Frag} (hK : K = TheK.K) {I : List Addr} {B H : Hp} {S : Store} {v : V} {x : D} {a : String} (st : Sto L I B H S) (r : Rp I B v x) (e : tyOf S x = some a) : TyX K H v (.type a) := by
  unfold tyOf at e
  split at e
  · cases e; cases r; exact .base .non
  · cases e; cases r; exact .base (.bl _)
  · cases e; cases r; exact .base (.int _)
  · cases e; cases r; exact .base (.str _)
  · cases e; cases r; exact .byt _
  · cases e
    obtain ⟨b, vs, rfl, h, _⟩ := Rp.tup st r
    exact .base (.tup h)
  · cases e
    obtain ⟨b, vs, rfl, h, _⟩ := Rp.lst st r
    exact .base (.lst h)
  · cases e
    obtain ⟨b, rfl, h⟩ := r
    rcases h with h | ⟨o, _, _, h1, h2, _⟩
    · rcases st.rdL h with h | ⟨o, h⟩
      · exact .base (.lst h)
      · exact .base (.frz h)
    · subst hK
      exact .kList h1 h2
  · cases e
    obtain ⟨b, vs, rfl, h, _⟩ := r
    exact .base (.dK (st.sub _ _ h))
  · split at e
    · cases e
      rename_i q
      obtain ⟨b, o, rfl, _, h, vs, rfl, _⟩ := Rp.ptr st r q
      exact .base (.lst h)
    · cases e
      rename_i q
      obtain ⟨b, o, rfl, _, h, vs, rfl, _⟩ := Rp.ptr st r q
      exact .base (.dK h)
    · cases e
  · cases e
theorem kits_ok {K : PySem.W.Frag} {I : List Addr} {B : Hp} {a : String} : ∀ {ts : List D} {vs : List V} {b : Bool}, Rps I B vs ts → bIsi.kits a ts = some b → ∃ us, Paired ClsV vs us ∧ PySem.W.kitAny K (.type a) us = some b
  | [], [], b, _, e => by
    unfold bIsi.kits at e; cases e
    exact ⟨[], .nil, kitAny_nil⟩
  | .ty t :: ts, v :: vs, b, r, e => by
    unfold bIsi.kits at e
    have hv : v = .ty t := r.1
    subst hv
    cases q : L2.kitB a t with
    | none => rw [q] at e; cases e
    | some c =>
      cases q2 : bIsi.kits a ts with
      | none => rw [q, q2] at e; cases e
      | some d =>
        rw [q, q2] at e
        cases e
        obtain ⟨us, hu, hk⟩ := kits_ok r.2 q2
        refine ⟨_, .cons (.ty t) hu, kitAny_cons (kit_ty q) (fun z => by subst z; simpa using hk) fun z => by subst z; rfl⟩
  | [], _ :: _, _, r, _ => r.elim
  | _ :: _, [], _, r, _ => r.elim
  | .non :: _, _ :: _, _, _, e => by cases e
  | .bl _ :: _, _ :: _, _, _, e => by cases e
  | .int _ :: _, _ :: _, _, _, e => by cases e
  | .str _ :: _, _ :: _, _, _, e => by cases e
  | .byt _ :: _, _ :: _, _, _, e => by cases e
  | .tup _ :: _, _ :: _, _, _, e => by cases e
  | .lst _ :: _, _ :: _, _, _, e => by cases e
  | .scr _ :: _, _ :: _, _, _, e => by cases e
  | .dct _ _ :: _, _ :: _, _, _, e => by cases e
  | .obj _ _ _ :: _, _ :: _, _, _, e => by cases e
  | .ptr _ :: _, _ :: _, _, _, e => by cases e
  | .ref _ :: _, _ :: _, _, _, e => by cases e
theorem k_isi {K : PySem.W.Frag} (hK : K = TheK.K) : OkA L (fun xs H Q => rIsi K xs H Q ∨ rIsiT K xs H Q) bIsi := by
  intro W s I B H Q S vs xs st r f
  unfold bIsi at f
  split at f
  · rename_i x t
    obtain ⟨v, u, rfl, rv, ru⟩ := r.two
    cases ru
    cases q : tyOf S x with
    | none => rw [q] at f; exact f.elim
    | some a =>
      rw [q] at f
      simp only [Option.bind] at f
      cases q2 : L2.kitB a t with
      | none => rw [q2] at f; exact f.elim
      | some b =>
        rw [q2] at f
        exact .inl ⟨v, .ty t, _, _, b, rfl, .ty t, tyX_of hK st rv q, kit_ty q2, f.here st rfl⟩
  · rename_i x ts
    obtain ⟨v, u, rfl, rv, ru⟩ := r.two
    obtain ⟨p, cs, rfl, hp, _, rc⟩ := Rp.tup st ru
    cases q : tyOf S x with
    | none => rw [q] at f; exact f.elim
    | some a =>
      rw [q] at f
      simp only at f
      cases q2 : bIsi.kits a ts with
      | none => rw [q2] at f; exact f.elim
      | some b =>
        rw [q2] at f
        obtain ⟨us, hu, hk⟩ := kits_ok rc q2
        exact .inr ⟨v, p, cs, _, us, b, rfl, hp, hu, tyX_of hK st rv q, hk, f.here st rfl⟩
  · exact f.elim
/-! ### xs.count(y), xs.index(y), flat items -/
def toV : D → Option V
  | .non => some .non
  | .bl b => some (.bl b)
  | .int i => some (.int i)
  | .str s => some (.str s)
  | _ => none
theorem toV_rp {I : List Addr} {B : Hp} {v w : V} {x : D} (r : Rp I B v x) (e : toV x = some w) : v = w ∧ flatV w = true := by
  unfold toV at e
  split at e
  · cases e; exact ⟨r, rfl⟩
  · cases e; exact ⟨r, rfl⟩
  · cases e; exact ⟨r, rfl⟩
  · cases e; exact ⟨r, rfl⟩
  · cases e
def toVs : List D → Option (List V)
  | [] => some []
  | x :: xs => match toV x, toVs xs with
    | some v, some vs => some (v :: vs)
    | _, _ => none
theorem toVs_rp {I : List Addr} {B : Hp} : ∀ {vs ws : List V} {xs : List D}, Rps I B vs xs → toVs xs = some ws → vs = ws ∧ ws.all flatV = true
  | [], ws, [], _, e => by unfold toVs at e; cases e; exact ⟨rfl, rfl⟩
  | v :: vs, ws, x :: xs, r, e => by
    unfold toVs at e
    cases q : toV x with
    | none => rw [q] at e; cases e
    | some w =>
      cases q2 : toVs xs with
      | none => rw [q, q2] at e; cases e
      | some w2 =>
        rw [q, q2] at e; cases e
        obtain ⟨h1, h2⟩ := toV_rp r.1 q
        obtain ⟨h3, h4⟩ := toVs_rp r.2 q2
        exact ⟨by rw [h1, h3], by simp [h2, h4]⟩
  | [], _, _ :: _, r, _ => r.elim
  | _ :: _, _, [], r, _ => r.elim
/-- the first place of y -/
def findV (y : V) : List V → Option Nat
  | [] => none
  | z :: zs => if eqV z y then some 0 else (findV y zs).map (· + 1)
theorem findV_at {y : V} : ∀ {zs : List V} {j : Nat}, findV y zs = some j → (∃ z, zs[j]? = some z ∧ eqV z y = true) ∧ ∀ (m : Nat) (z' : V), m < j → zs[m]? = some z' → eqV z' y = false
  | [], j, e => by cases e
  | z :: zs, j, e => by
    unfold findV at e
    by_cases h : eqV z y = true
    · rw [if_pos h] at e; cases e
      exact ⟨⟨z, rfl, h⟩, fun m z' hm => by omega⟩
    · rw [if_neg h] at e
      cases q : findV y zs with
      | none => rw [q] at e; cases e
      | some i =>
        rw [q] at e; cases e
        obtain ⟨⟨w, h1, h2⟩, h3⟩ := findV_at q
        refine ⟨⟨w, by simpa using h1, h2⟩, fun m z' hm hz => ?_⟩
        cases m with
        | zero => simp at hz; subst hz; simpa using h
        | succ m => exact h3 m z' (by simpa using hm) (by simpa using hz)
def oIndex : D → D → Store → R D := fun x y S => match (itemsOf S x).bind toVs, toV y with
  | some vs, some w => match findV w vs with
    | some j => .ok (.int (j : Nat)) S
    | none => .bad
  | _, _ => .bad
def oCount : D → D → Store → R D := fun x y S => match (itemsOf S x).bind toVs, toV y with
  | some vs, some w => .ok (.int ((vs.countP fun z => eqV z w : Nat) : Int)) S
  | _, _ => .bad
def rCntF (K : PySem.W.Frag) : V → List V → Hp → VK → Prop := fun x xs H Q => ∃ (a : Addr) (ys : List V) (y : V), x = V.ref a ∧ xs = [y] ∧ SqL K H a ys ∧ flatV y = true ∧ ys.all flatV = true ∧ Q (.int ((ys.countP fun z => eqV z y : Nat) : Int)) H
theorem countU {y : V} {uy : Value} (ry : RelV y uy) (fy : flatV y = true) : ∀ {ys : List V} {its : List Value}, Vals ys its → ys.all flatV = true → its.countP (eqU y) = ys.countP fun z => eqV z y
  | [], [], .nil, _ => rfl
  | z :: zs, u :: us, .cons r rr, h => by
    have h' := Bool.and_eq_true_iff.mp h
    rw [List.countP_cons, List.countP_cons, countU ry fy rr h'.2, eqU_of r h'.1]
theorem mt_cntF : MtR X "list.count" (rCntF X.K) := by
  intro pins s σ H x xs v us Q I rx rxs h
  obtain ⟨a, ys, y, rfl, rfl, hs, fy, fys, q⟩ := h
  cases rx
  obtain ⟨uy, rfl, ry⟩ := rxs.one
  obtain ⟨its, rv, ⟨⟨cls, dd, data, sl⟩, n, ho, hc, hdn, hd⟩, hlen⟩ := I.list hs
  simp only at hc hd
  subst hc hd
  refine call_meets PySem.F.slot_list_count ⟨_, ho, rfl⟩ PySem.F.entry_list_count (PySem.F.args_list_count_2 _ _)
    (SeqAt.list_countAt a its.toArray n dd sl uy (eqU y)) ⟨ho, fun u' hu' => mem_eqAt ry fy rv fys u' (by simpa using hu'), ?_⟩
  have ec : its.toArray.toList.countP (eqU y) = ys.countP fun z => eqV z y := countU ry fy rv fys
  refine ⟨.int ((ys.countP fun z => eqV z y : Nat) : Int), H, I.tok _, ⟨s.toks, ?_⟩, q⟩
  rw [← ec]
/-- xs.m(y), xs a list that stays as it is -/
def cLm (f : D → D → Store → R D) (a b : CE) : CE := fun s S => (a s S).bind fun x S1 => match x with
  | .lst xs => (b s S1).bind fun y S2 => f (.lst xs) y S2
  | _ => .bad
section
variable {o e : Expr} {co ce : CE} {apos pos : Pos}
theorem e_count (ho : PE X o (rdE T W co)) (ha : PE X e (rdE T W ce))
    (hm : PE X o (rdE T W co) → PA X [e] (tCons (rdE T W ce) tNil) → PE X (.Call (.Attribute o "count" apos) [e] [] pos) (tBM X.K "list" (rCntF X.K) (rdE T W co) (tCons (rdE T W ce) tNil)) := by
      exact fun h1 h2 => pe_bm PySem.F.plainAttrs_list PySem.F.slot_list_count PySem.F.type_list_count mt_cntF h1 h2)
    (hst : starEach (e :: []) X.env = (false, eval e X.env) :: starEach [] X.env := by rfl) :
    PE X (.Call (.Attribute o "count" apos) [e] [] pos) (rdE T W (cLm oCount co ce)) := by
  refine pe_imp (hm ho (pa_cons ha pa_nil hst)) ?_
  rintro s H Q ⟨H0, I, B, z, S, a, h⟩
  refine bind (rep := Rp) (rep2 := Rp) (Q := Q) a h fun J B' H' S' v x g a1 r1 f1 => ?_
  cases x with
  | lst xs =>
    obtain ⟨b, vs, rfl, hb, hB, rv⟩ := Rp.lst a1.st r1
    refine ⟨listTy hb, ?_⟩
    refine bind (rep := Rp) (rep2 := Rp) (Q := Q) a1 f1 fun J2 B2 H2 S2 u y g2 a2 r2 f2 => ?_
    unfold oCount itemsOf at f2
    simp only [Option.bind] at f2
    cases q : toVs xs with
    | none => rw [q] at f2; exact f2.elim
    | some ws =>
      cases q2 : toV y with
      | none => rw [q, q2] at f2; exact f2.elim
      | some w =>
        rw [q, q2] at f2
        obtain ⟨rfl, fl⟩ := toVs_rp (rv.gr g2) q
        obtain ⟨rfl, fw⟩ := toV_rp r2 q2
        exact ⟨b, _, _, rfl, rfl, SqL.of (a2.st.sub _ _ (g2.ext _ _ hB)), fw, fl, f2.here a2.st rfl⟩
  | _ => exact f1.elim
theorem e_index (ho : PE X o (rdE T W co)) (ha : PE X e (rdE T W ce))
    (hm : PE X o (rdE T W co) → PA X [e] (tCons (rdE T W ce) tNil) → PE X (.Call (.Attribute o "index" apos) [e] [] pos) (tBM X.K "list" (rIndex X.K) (rdE T W co) (tCons (rdE T W ce) tNil)) := by
      exact fun h1 h2 => pe_bm PySem.F.plainAttrs_list PySem.F.slot_list_index PySem.F.type_list_index mt_index h1 h2)
    (hst : starEach (e :: []) X.env = (false, eval e X.env) :: starEach [] X.env := by rfl) :
    PE X (.Call (.Attribute o "index" apos) [e] [] pos) (rdE T W (cLm oIndex co ce)) := by
  refine pe_imp (hm ho (pa_cons ha pa_nil hst)) ?_
  rintro s H Q ⟨H0, I, B, z, S, a, h⟩
  refine bind (rep := Rp) (rep2 := Rp) (Q := Q) a h fun J B' H' S' v x g a1 r1 f1 => ?_
  cases x with
  | lst xs =>
    obtain ⟨b, vs, rfl, hb, hB, rv⟩ := Rp.lst a1.st r1
    refine ⟨listTy hb, ?_⟩
    refine bind (rep := Rp) (rep2 := Rp) (Q := Q) a1 f1 fun J2 B2 H2 S2 u y g2 a2 r2 f2 => ?_
    unfold oIndex itemsOf at f2
    simp only [Option.bind] at f2
    cases q : toVs xs with
    | none => rw [q] at f2; exact f2.elim
    | some ws =>
      cases q2 : toV y with
      | none => rw [q, q2] at f2; exact f2.elim
      | some w =>
        rw [q, q2] at f2
        dsimp only at f2
        cases q3 : findV w ws with
        | none => rw [q3] at f2; exact f2.elim
        | some j =>
          rw [q3] at f2
          obtain ⟨rfl, fl⟩ := toVs_rp (rv.gr g2) q
          obtain ⟨rfl, fw⟩ := toV_rp r2 q2
          obtain ⟨⟨z0, h1, h2⟩, h3⟩ := findV_at q3
          exact ⟨b, _, _, j, z0, rfl, rfl, SqL.of (a2.st.sub _ _ (g2.ext _ _ hB)), fw, fl, h1, h2, h3, f2.here a2.st rfl⟩
  | _ => exact f1.elim
end
end CL
set_option Elab.async false
set_option linter.all false
set_option maxRecDepth 100000
/-! CL19: small things that the printed texts ask. -/
namespace CL
open PySem PySem.Spec PyProof.Rows L2
variable [TheK]
theorem bt_len : bootBuiltins "len" = some (.builtin "len") := by decide +kernel
theorem bt_max : bootBuiltins "max" = some (.builtin "max") := by decide +kernel
theorem bt_min : bootBuiltins "min" = some (.builtin "min") := by decide +kernel
theorem bt_isinstance : bootBuiltins "isinstance" = some (.builtin "isinstance") := by decide +kernel
theorem bt_int : bootBuiltins "int" = some (.type "int") := by decide +kernel
theorem bt_str : bootBuiltins "str" = some (.type "str") := by decide +kernel
theorem bt_list : bootBuiltins "list" = some (.type "list") := by decide +kernel
theorem bt_tuple : bootBuiltins "tuple" = some (.type "tuple") := by decide +kernel
theorem bt_dict : bootBuiltins "dict" = some (.type "dict") := by decide +kernel
theorem bt_bool : bootBuiltins "bool" = some (.type "bool") := by decide +kernel
theorem bt_bytes : bootBuiltins "bytes" = some (.type "bytes") := by decide +kernel
theorem bt_ValueError : bootBuiltins "ValueError" = some (.type "ValueError") := by decide +kernel
section
variable {L : Tl} {T : Pm} {X : Cx} {W : WX}
theorem FnC.no {P : Program} {w : World} {K : PySem.W.Frag} {mg : Str → Option Value} {base : Heap} {k : Nat} {f : Addr} {fd : FuncData} {ps : List Str} : FnC P w K mg base L k f fd ps (fun _ _ => .bad) :=
  ⟨fun vs H Q E ⟨_, _, _, _, hl, _⟩ => hl, fun A outer s H args us vs Q E _ _ _ _ ⟨_, _, _, _, _, _, _, f⟩ => f.elim⟩
theorem i_seq {tg e : Expr} {ce : CE} (he : PE X e (rdE T W ce)) (hK : X.K = TheK.K := by rfl) : PI X tg e (rdI T W (CL.iSeq ce)) := by
  refine ⟨fun pins s σ H R I h => ?_⟩
  obtain ⟨H0, J, B, z, S, a, f⟩ := h
  unfold CL.iSeq at f
  cases q : ce z S with
  | bad => rw [q] at f; exact f.elim
  | exc x S' => exact (i_tup he).run pins s σ H R I ⟨H0, J, B, z, S, a, by unfold iSeqT; rw [q] at f ⊢; exact f⟩
  | ok d S' =>
    rw [q] at f
    cases d with
    | tup xs => exact (i_tup he).run pins s σ H R I ⟨H0, J, B, z, S, a, by unfold iSeqT; rw [q]; exact f⟩
    | lst xs => exact (i_lst he hK).run pins s σ H R I ⟨H0, J, B, z, S, a, by unfold iSeqL; rw [q]; exact f⟩
    | scr ns => exact (i_lst he hK).run pins s σ H R I ⟨H0, J, B, z, S, a, by unfold iSeqL; rw [q]; exact f⟩
    | _ => exact f.elim
end
end CL
namespace CL
open PySem PySem.Spec PyProof.Rows L2
variable [TheK]
section
variable {P : Program} {w : World} {K : PySem.W.Frag} {mg : Str → Option Value} {base : Heap} {x qual : Str} {st : Stmt} {f co : Addr} {fd : FuncData} {N ps : List Str} {k : Nat} {c : CS} {L : Tl}
/-- as fn_c, the def's code object known -/
theorem fn_cc (F : Fun K x qual st f fd) (S : FnScope N ps (defScope st)) (hcd : fd.code = .ref co)
    (hb : ∀ (A : Around) (outer : List Env) (s : Shared) (H : Hp) (E : XK) (I0 : List Addr) (B0 : Hp), Room k (A.deeper (envOfC qual (defScope st) s.heap.objs.size f (.ref co))) →
      PSs (cxOf (L2.CX P w) P w K mg base N qual (defScope st) f (.ref co) A outer s H E) (defBody st) (rdS ⟨L, none, none⟩ I0 B0 H (kW E) c)) :
    FnC P w K mg base L (k + 1) f fd ps (run N.length c) := by
  obtain ⟨oc, od, kV, doc, pm, an, cdv, ct, osl, rfl, lk, hcg⟩ := F.ex
  have e : cdv = .ref co := hcd
  subst e
  refine fn_of lk hcg S (fun vs H Q E h => ?_) (fun A outer s H vs Q E hr h => ?_)
  · obtain ⟨I, B, S, ds, hl, _⟩ := h
    exact hl
  · obtain ⟨I, B, S, ds, hl, r, st', f⟩ := h
    refine ⟨_, hb A outer s H E I B hr, I, B, _, S, Gr.refl I B H, start_at N st' r, ?_⟩
    unfold run at f
    cases q : c (ds.map SV.d ++ List.replicate (N.length - ds.length) SV.u) S with
    | nx z' S' => rw [q] at f; exact fun J B' H' s' g gb a => f J B' H' .non g a.st rfl
    | rt d S' => rw [q] at f; exact fun J B' H' v g gb st r => f J B' H' v g st r
    | exc x z' S' => rw [q] at f; exact fun J B' H' s' cc dd g gb a r => f J B' H' cc dd g a.st r
    | bk z' S' => rw [q] at f; exact f.elim
    | ct z' S' => rw [q] at f; exact f.elim
    | bad => rw [q] at f; exact f.elim
end
end CL
namespace CL
open PySem PySem.Spec PyProof.Rows L2
variable [TheK]
section
variable {P : Program} {w : World} {K : PySem.W.Frag} {mg : Str → Option Value} {base : Heap} {x qual : Str} {st : Stmt} {f co : Addr} {fd : FuncData} {N ps : List Str} {k : Nat} {c : CS} {L : Tl} {bd : List Stmt} {sc : Scope}
/-- as fn_c, the body and the scope written out -/
theorem fn_d (F : Fun K x qual st f fd) (hbd : defBody st = bd) (hsc : defScope st = sc) (S : FnScope N ps sc)
    (hb : ∀ (cdv : Value) (A : Around) (outer : List Env) (s : Shared) (H : Hp) (E : XK) (I0 : List Addr) (B0 : Hp), Room k (A.deeper (envOfC qual sc s.heap.objs.size f cdv)) →
      PSs (cxOf (L2.CX P w) P w K mg base N qual sc f cdv A outer s H E) bd (rdS ⟨L, none, none⟩ I0 B0 H (kW E) c)) :
    FnC P w K mg base L (k + 1) f fd ps (run N.length c) := by
  subst hbd hsc
  exact fn_c F S hb
theorem fn_dd (F : Fun K x qual st f fd) (hbd : defBody st = bd) (hsc : defScope st = sc) (S : FnScope N ps sc) (hcd : fd.code = .ref co)
    (hb : ∀ (A : Around) (outer : List Env) (s : Shared) (H : Hp) (E : XK) (I0 : List Addr) (B0 : Hp), Room k (A.deeper (envOfC qual sc s.heap.objs.size f (.ref co))) →
      PSs (cxOf (L2.CX P w) P w K mg base N qual sc f (.ref co) A outer s H E) bd (rdS ⟨L, none, none⟩ I0 B0 H (kW E) c)) :
    FnC P w K mg base L (k + 1) f fd ps (run N.length c) := by
  subst hbd hsc
  exact fn_cc F S hcd hb
/-- the body of a def that calls what was handed to it -/
theorem body_d {an : Str} {A : Around} {outer : List Env} {cdg : Value} {s : Shared} {H : Hp} {I0 : List Addr} {B0 : Hp} {FF : Option (Addr × List Addr × Hp × Hp)} {ac : CE} (hbd : defBody st = bd) (hsc : defScope st = sc)
    (h : Room k (A.deeper (envOfC qual sc s.heap.objs.size f cdg)) → (∀ (W : WX) (pn : List (Addr × Obj)) (xe : Value → Shared → Prop) (p1 p2 : Pos), Takes ((cxOf C8.CX0 P w K mg base N qual sc f cdg A outer s H C8.E0).tr pn xe) W → PE ((cxOf C8.CX0 P w K mg base N qual sc f cdg A outer s H C8.E0).tr pn xe) (.Call (.Name an p1) [] [] p2) (rdE ⟨L, none, FF⟩ W ac)) →
      PSs (cxOf C8.CX0 P w K mg base N qual sc f cdg A outer s H C8.E0).nox bd (rdS ⟨L, none, FF⟩ I0 B0 H wNo c))
    (hr : Room k (A.deeper (envOfC qual (defScope st) s.heap.objs.size f cdg))) (hac : ∀ (W : WX) (pn : List (Addr × Obj)) (xe : Value → Shared → Prop) (p1 p2 : Pos), Takes ((cxOf C8.CX0 P w K mg base N qual (defScope st) f cdg A outer s H C8.E0).tr pn xe) W → PE ((cxOf C8.CX0 P w K mg base N qual (defScope st) f cdg A outer s H C8.E0).tr pn xe) (.Call (.Name an p1) [] [] p2) (rdE ⟨L, none, FF⟩ W ac)) :
    PSs (cxOf C8.CX0 P w K mg base N qual (defScope st) f cdg A outer s H C8.E0).nox (defBody st) (rdS ⟨L, none, FF⟩ I0 B0 H wNo c) := by
  subst hbd hsc
  exact h hr hac
end
end CL
namespace CL
theorem lamS_d {sc ss ls : PySem.Scope} (h : sc = ss) (k : LamX.lamSB ss ls = true) : LamX.LamS sc ls := by subst h; exact LamX.lamS_by k
end CL
namespace CL
theorem iRange1_nat {c : CE} {z : Sl} {S S' : Store} {n : Nat} (h : c z S = .ok (.int n) S') (hn : n ≤ 1000) : CL.iRange1 c z S = .ok ((List.range' 0 n).map fun (k : Nat) => D.int (k : Int)) S' := by
  have hb : in62 (n : Int) = true := in62_of (Nat.lt_of_le_of_lt (by simpa using hn) (by decide +kernel : 1000 < 2 ^ 62))
  unfold CL.iRange1
  rw [h]
  simp only [CL.R.bind, hb, if_true, List.range_eq_range']
  simp
end CL
set_option Elab.async false
set_option linter.all false
set_option maxRecDepth 100000
/-! CL20: the end. -/
namespace CL
open PySem PySem.Spec PyProof.Rows L2
variable [TheK]
section
variable {K : PySem.W.Frag} {C D : Addr} {b : Bool}
theorem kitC (hd : PySem.W.hasDictIn K D = true) (ht : PySem.W.typeIn K (.ref D) = some (.type "type")) (h : PySem.W.subIn K (.ref C) (.ref D) = some b) : PySem.W.kitCls K (.ref C) (.ref D) = some b := by
  obtain ⟨cd, hc, _⟩ := PySem.W.any_some hd
  show (if ((PySem.W.clsIn K D).isSome && PySem.W.typeIn K (.ref D) == some (.type "type")) = true then PySem.W.subIn K (.ref C) (.ref D) else none) = some b
  rw [hc, ht]
  exact h
theorem kit_self : PySem.W.kitOne K (.ref C) (.ref C) = some true := by
  unfold PySem.W.kitOne
  rw [if_pos (by simp)]
theorem kit_own (hd : PySem.W.hasDictIn K D = true) (ht : PySem.W.typeIn K (.ref D) = some (.type "type")) (hs : PySem.W.subIn K (.ref C) (.ref C) = some true) (h : PySem.W.subIn K (.ref C) (.ref D) = some b) : PySem.W.kitOne K (.ref C) (.ref D) = some b := by
  by_cases e : C = D
  · subst e
    rw [hs] at h; cases h
    exact kit_self
  · unfold PySem.W.kitOne
    rw [if_neg (by simpa using e)]
    exact kitC hd ht h
theorem kit_type {T : String} (hm : PySem.W.kitMeta T = true) (h : PySem.W.subIn K (.ref C) (.type T) = some b) : PySem.W.kitOne K (.ref C) (.type T) = some b := by
  unfold PySem.W.kitOne
  rw [if_neg (by simp)]
  show (if PySem.W.kitMeta T = true then PySem.W.subIn K (.ref C) (.type T) else none) = some b
  rw [if_pos hm]
  exact h
theorem exm_own (hx : PySem.W.subIn K (.ref D) (.type "BaseException") = some true) (hd : PySem.W.hasDictIn K D = true) (ht : PySem.W.typeIn K (.ref D) = some (.type "type")) (h : PySem.W.subIn K (.ref C) (.ref D) = some b) : PySem.W.exmOne K (.ref C) (.ref D) = some b := by
  unfold PySem.W.exmOne
  rw [if_pos (by rw [hx]; rfl)]
  exact kitC hd ht h
end
section
variable {l : PySem.W.OpenLaw} {w : World} {k n : Nat} {x q : Str} {mg : Str → Option Value} {fa c P : Addr} {h : Heap} {fd : FuncData} {g : G}
/-- a law that makes lambdas itself: what is to be shown of its piece -/
theorem law_at (hT : h.get? P = some { cls := .none, data := .fields #[] }) (nT : TheK.K.lookup P = none) (C : PySem.W.CodeHd h c P) (hb : ∀ (s : Shared) (u : Value), BindsTo s fd ⟨[u], []⟩ [(x, u)])
    (hg : ∀ ns : List Int, ns.length ≤ n → ∃ S', g [.scr ns] [] = .ok (.bl true) S')
    (hF : ∀ base : Heap, TheK.K.In base → base.Ns mainGlobals mg → LamX.TabB base mg c P → FnC l.prog w TheK.K mg base (tabsOf [(P, q)], []) k fa fd [x] g) :
    LamX.LawAtS l w TheK.K (L2.CX l.prog w) k n x mg fa h := by
  refine ⟨fd, [(c, P)], spG (tabsOf [(P, q)], []) 1 g, fun p hp => ?_, fun p hp => ?_, fun p hp => ?_, hb, fun H a ns hl _ hH hS => ?_, fun base k1 k2 k3 => hF base k1 k2 (k3 (c, P) (by simp))⟩
  · have e : p = (c, P) := by simpa using hp
    subst e; exact hT
  · have e : p = (c, P) := by simpa using hp
    subst e; exact nT
  · have e : p = (c, P) := by simpa using hp
    subst e; exact C
  · obtain ⟨S', e⟩ := hg ns hl
    have tab : NdefX.TabsN (tabsOf [(P, q)]) H := fun p hp => by
      have e : p = (P, fun _ _ => q) := by simpa [tabsOf] using hp
      subst e
      exact NdefX.TabN.nil (hH (c, P) (by simp))
    have start : ∃ B : Hp, (∀ a o, B a = some o → H a = some o) ∧ (∀ a o, B a = some o → ∀ ps, o ≠ .tbl ps) ∧ (Rd B a (.lst (ns.map V.int)) ∨ KLst a ns) := by
      rcases hS with hS | ⟨o, its, m, hk⟩
      · rcases hS with h1 | ⟨o, h1⟩
        · refine ⟨fun b => if b = a then H a else none, fun b u hb => ?_, fun b u hb => ?_, .inl (.inl ?_)⟩
          · by_cases e : b = a
            · subst e; simpa using hb
            · simp [e] at hb
          · by_cases e : b = a
            · subst e
              simp [h1] at hb
              subst hb
              intro ps z; cases z
            · simp [e] at hb
          · simp [h1]
        · refine ⟨fun b => if b = a then H a else none, fun b u hb => ?_, fun b u hb => ?_, .inl (.inr ⟨o, ?_⟩)⟩
          · by_cases e : b = a
            · subst e; simpa using hb
            · simp [e] at hb
          · by_cases e : b = a
            · subst e
              simp [h1] at hb
              subst hb
              intro ps z; cases z
            · simp [e] at hb
          · simp [h1]
      · exact ⟨fun _ => none, fun _ _ z => (by cases z), fun _ _ z => (by cases z), .inr ⟨o, its, m, hk⟩⟩
    obtain ⟨B, b1, b2, b3⟩ := start
    refine ⟨[], B, [], [.scr ns], rfl, ⟨⟨a, rfl, b3⟩, trivial⟩, ⟨rfl, List.nodup_nil, fun _ z => (by cases z), b1, b2, fun i m z => (by simp at z), tab, fun p hp => (by cases hp)⟩, ?_⟩
    rw [e]
    exact fun J B' H' v _ _ r => r
end
end CL
set_option Elab.async false
set_option linter.all false
set_option maxRecDepth 100000
set_option maxHeartbeats 4000000
namespace Law
open PySem PySem.Spec PyProof.Rows L2 CL
variable [TheK]
def top (i : Nat) : Stmt := PySem.Challenge.pw_wornbridges_k01_towns_validated.main.body.getD i (.Pass ⟨0, 0, 0, 0⟩)
abbrev lamQ : Str := (envOfC "law" (defScope (top 31)) 0 0 .none).qual ++ "<lambda>"
/-- where things stand -/
structure Ad where
  f_law_mix : Addr
  d_law_mix : FuncData
  f_law_next : Addr
  d_law_next : FuncData
  f_law_life : Addr
  d_law_life : FuncData
  f_law_links : Addr
  d_law_links : FuncData
  f_law_spoilt : Addr
  d_law_spoilt : FuncData
  f_law_is_link : Addr
  d_law_is_link : FuncData
  f_law_first_bad : Addr
  d_law_first_bad : FuncData
  f_law_error : Addr
  d_law_error : FuncData
  f_Town_is_bridge : Addr
  d_Town_is_bridge : FuncData
  f_Town__init : Addr
  d_Town__init : FuncData
  f_law_alike : Addr
  d_law_alike : FuncData
  f_Town_bridges : Addr
  d_Town_bridges : FuncData
  f_Town_place_count : Addr
  d_Town_place_count : FuncData
  f_Town_lives : Addr
  d_Town_lives : FuncData
  f_law : Addr
  d_law : FuncData
  C_InvalidTrips : Addr
  C_InvalidText : Addr
  C_InvalidTown : Addr
  C_InvalidLoad : Addr
  C_InvalidLife : Addr
  C_InvalidCount : Addr
  C_UnknownKind : Addr
  C_UnknownBridge : Addr
  C_UnknownPlace : Addr
  C_Contradiction : Addr
  C_DifferentTowns : Addr
  C_TooManyBridges : Addr
  C_BridgeError : Addr
  C_Town : Addr
  i_InvalidTown : Addr
  j_InvalidTown : FuncData
  mc : Value
  lc : Addr
  lP : Addr
  t_Town_MAX_PLACES : Value
  t_Town_MAX_LIFE : Value
  t_Town_MAX_BRIDGES : Value
  p_Town_is_bridge : Addr
  a_Town_bridges : Addr
  a_Town_place_count : Addr
  a_Town_lives : Addr
  t_MAX_LENGTH : Tok
/-- what the top has made -/
structure Fx (mg : Str → Option Value) (a : Ad) : Prop where
  F_law_mix : Fun TheK.K ("_law_mix" : Str) ("_law_mix" : Str) (top 21) a.f_law_mix a.d_law_mix
  b_law_mix : L2.Binds TheK.K a.d_law_mix [("_law_script" : Str), ("_law_seed" : Str)] []
  m_law_mix : mg ("_law_mix" : Str) = some (.ref a.f_law_mix)
  F_law_next : Fun TheK.K ("_law_next" : Str) ("_law_next" : Str) (top 22) a.f_law_next a.d_law_next
  b_law_next : L2.Binds TheK.K a.d_law_next [("_law_h" : Str), ("_law_limit" : Str)] []
  m_law_next : mg ("_law_next" : Str) = some (.ref a.f_law_next)
  F_law_life : Fun TheK.K ("_law_life" : Str) ("_law_life" : Str) (top 25) a.f_law_life a.d_law_life
  b_law_life : L2.Binds TheK.K a.d_law_life [("_law_h" : Str), ("_law_wide" : Str)] []
  m_law_life : mg ("_law_life" : Str) = some (.ref a.f_law_life)
  F_law_links : Fun TheK.K ("_law_links" : Str) ("_law_links" : Str) (top 26) a.f_law_links a.d_law_links
  b_law_links : L2.Binds TheK.K a.d_law_links [("_law_h" : Str), ("_law_count" : Str), ("_law_most" : Str), ("_law_wide" : Str)] []
  m_law_links : mg ("_law_links" : Str) = some (.ref a.f_law_links)
  F_law_spoilt : Fun TheK.K ("_law_spoilt" : Str) ("_law_spoilt" : Str) (top 30) a.f_law_spoilt a.d_law_spoilt
  b_law_spoilt : L2.Binds TheK.K a.d_law_spoilt [("_law_h" : Str), ("_law_count" : Str), ("_law_links_here" : Str)] []
  m_law_spoilt : mg ("_law_spoilt" : Str) = some (.ref a.f_law_spoilt)
  F_law_is_link : Fun TheK.K ("_law_is_link" : Str) ("_law_is_link" : Str) (top 28) a.f_law_is_link a.d_law_is_link
  b_law_is_link : L2.Binds TheK.K a.d_law_is_link [("_law_count" : Str), ("_law_link" : Str)] []
  m_law_is_link : mg ("_law_is_link" : Str) = some (.ref a.f_law_is_link)
  F_law_first_bad : Fun TheK.K ("_law_first_bad" : Str) ("_law_first_bad" : Str) (top 29) a.f_law_first_bad a.d_law_first_bad
  b_law_first_bad : L2.Binds TheK.K a.d_law_first_bad [("_law_count" : Str), ("_law_links_here" : Str)] []
  m_law_first_bad : mg ("_law_first_bad" : Str) = some (.ref a.f_law_first_bad)
  F_law_error : Fun TheK.K ("_law_error" : Str) ("_law_error" : Str) (top 24) a.f_law_error a.d_law_error
  b_law_error : L2.Binds TheK.K a.d_law_error [("_law_call" : Str)] []
  m_law_error : mg ("_law_error" : Str) = some (.ref a.f_law_error)
  F_Town_is_bridge : Fun TheK.K ("is_bridge" : Str) ("Town.is_bridge" : Str) (inClass (top 19) 4) a.f_Town_is_bridge a.d_Town_is_bridge
  b_Town_is_bridge : L2.Binds TheK.K a.d_Town_is_bridge [("count" : Str), ("bridge" : Str)] []
  F_Town__init : Fun TheK.K ("__init__" : Str) ("Town.__init__" : Str) (inClass (top 19) 3) a.f_Town__init a.d_Town__init
  b_Town__init : L2.Binds TheK.K a.d_Town__init [("self" : Str), ("count" : Str), ("bridges" : Str)] []
  F_law_alike : Fun TheK.K ("_law_alike" : Str) ("_law_alike" : Str) (top 23) a.f_law_alike a.d_law_alike
  b_law_alike : L2.Binds TheK.K a.d_law_alike [("_law_found" : Str), ("_law_due" : Str)] []
  m_law_alike : mg ("_law_alike" : Str) = some (.ref a.f_law_alike)
  F_Town_bridges : Fun TheK.K ("bridges" : Str) ("Town.bridges" : Str) (inClass (top 19) 7) a.f_Town_bridges a.d_Town_bridges
  b_Town_bridges : L2.Binds TheK.K a.d_Town_bridges [("self" : Str)] []
  F_Town_place_count : Fun TheK.K ("place_count" : Str) ("Town.place_count" : Str) (inClass (top 19) 6) a.f_Town_place_count a.d_Town_place_count
  b_Town_place_count : L2.Binds TheK.K a.d_Town_place_count [("self" : Str)] []
  F_Town_lives : Fun TheK.K ("lives" : Str) ("Town.lives" : Str) (inClass (top 19) 8) a.f_Town_lives a.d_Town_lives
  b_Town_lives : L2.Binds TheK.K a.d_Town_lives [("self" : Str)] []
  F_law : Fun TheK.K ("law" : Str) ("law" : Str) (top 31) a.f_law a.d_law
  b_law : L2.Binds TheK.K a.d_law [("_law_script" : Str)] []
  m_law : mg ("law" : Str) = some (.ref a.f_law)
  m_InvalidTrips : mg ("InvalidTrips" : Str) = some (.ref a.C_InvalidTrips)
  m_InvalidText : mg ("InvalidText" : Str) = some (.ref a.C_InvalidText)
  m_InvalidTown : mg ("InvalidTown" : Str) = some (.ref a.C_InvalidTown)
  m_InvalidLoad : mg ("InvalidLoad" : Str) = some (.ref a.C_InvalidLoad)
  m_InvalidLife : mg ("InvalidLife" : Str) = some (.ref a.C_InvalidLife)
  m_InvalidCount : mg ("InvalidCount" : Str) = some (.ref a.C_InvalidCount)
  m_UnknownKind : mg ("UnknownKind" : Str) = some (.ref a.C_UnknownKind)
  m_UnknownBridge : mg ("UnknownBridge" : Str) = some (.ref a.C_UnknownBridge)
  m_UnknownPlace : mg ("UnknownPlace" : Str) = some (.ref a.C_UnknownPlace)
  m_Contradiction : mg ("Contradiction" : Str) = some (.ref a.C_Contradiction)
  m_DifferentTowns : mg ("DifferentTowns" : Str) = some (.ref a.C_DifferentTowns)
  m_TooManyBridges : mg ("TooManyBridges" : Str) = some (.ref a.C_TooManyBridges)
  m_BridgeError : mg ("BridgeError" : Str) = some (.ref a.C_BridgeError)
  m_Town : mg ("Town" : Str) = some (.ref a.C_Town)
  r_Town : ClX.CRead TheK.K a.C_Town a.mc
  v_Town_MAX_PLACES : ClX.CVal TheK.K a.C_Town a.mc ("MAX_PLACES" : Str) (.int 12) a.t_Town_MAX_PLACES
  v_Town_MAX_LIFE : ClX.CVal TheK.K a.C_Town a.mc ("MAX_LIFE" : Str) (.int 1000000000000000000) a.t_Town_MAX_LIFE
  v_Town_MAX_BRIDGES : ClX.CVal TheK.K a.C_Town a.mc ("MAX_BRIDGES" : Str) (.int 24) a.t_Town_MAX_BRIDGES
  s_Town_is_bridge : SMet TheK.K a.C_Town a.mc ("is_bridge" : Str) a.p_Town_is_bridge a.f_Town_is_bridge
  c_Town : Cls TheK.K a.C_Town
  k_Town : Mk TheK.K a.C_Town a.f_Town__init
  n_InvalidTown_index : PySem.W.findIn TheK.K (.ref a.C_InvalidTown) ("index" : Str) = some none
  n_InvalidTown_part : PySem.W.findIn TheK.K (.ref a.C_InvalidTown) ("part" : Str) = some none
  n_InvalidText_row : PySem.W.findIn TheK.K (.ref a.C_InvalidText) ("row" : Str) = some none
  n_InvalidTrips_index : PySem.W.findIn TheK.K (.ref a.C_InvalidTrips) ("index" : Str) = some none
  n_Town_size : NoAttr TheK.K a.C_Town ("size" : Str)
  n_Town_links : NoAttr TheK.K a.C_Town ("links" : Str)
  xf_InvalidTown : XfC TheK.K a.C_InvalidTown
  xf_InvalidText : XfC TheK.K a.C_InvalidText
  xf_InvalidTrips : XfC TheK.K a.C_InvalidTrips
  p_Town_bridges : PropOf TheK.K a.C_Town ("bridges" : Str) a.a_Town_bridges a.f_Town_bridges
  p_Town_place_count : PropOf TheK.K a.C_Town ("place_count" : Str) a.a_Town_place_count a.f_Town_place_count
  p_Town_lives : PropOf TheK.K a.C_Town ("lives" : Str) a.a_Town_lives a.f_Town_lives
  m_MAX_LENGTH : mg ("MAX_LENGTH" : Str) = some (.int 99 a.t_MAX_LENGTH)
  z_list : mg ("list" : Str) = none
  z_range : mg ("range" : Str) = none
  z_int : mg ("int" : Str) = none
  z_max : mg ("max" : Str) = none
  z_len : mg ("len" : Str) = none
  z_tuple : mg ("tuple" : Str) = none
  z_isinstance : mg ("isinstance" : Str) = none
  z_ValueError : mg ("ValueError" : Str) = none
  z_enumerate : mg ("enumerate" : Str) = none
  z_dict : mg ("dict" : Str) = none
  z_str : mg ("str" : Str) = none
  z_bool : mg ("bool" : Str) = none
  x_InvalidTown : ∀ {P : Program} (w : World) (base : Heap), XInit P w TheK.K mg base 1 a.C_InvalidTown [("part" : Str), ("index" : Str)]
  ec_InvalidTown : ExcC TheK.K a.C_InvalidTown
  kt_InvalidTown_InvalidTown : PySem.W.kitOne TheK.K (.ref a.C_InvalidTown) (.ref a.C_InvalidTown) = some true
  kt_InvalidTown_InvalidText : PySem.W.kitOne TheK.K (.ref a.C_InvalidTown) (.ref a.C_InvalidText) = some false
  kt_InvalidTown_InvalidTrips : PySem.W.kitOne TheK.K (.ref a.C_InvalidTown) (.ref a.C_InvalidTrips) = some false
  kt_InvalidTown_InvalidCount : PySem.W.kitOne TheK.K (.ref a.C_InvalidTown) (.ref a.C_InvalidCount) = some false
  kt_InvalidTown_InvalidLife : PySem.W.kitOne TheK.K (.ref a.C_InvalidTown) (.ref a.C_InvalidLife) = some false
  kt_InvalidTown_InvalidLoad : PySem.W.kitOne TheK.K (.ref a.C_InvalidTown) (.ref a.C_InvalidLoad) = some false
  kt_InvalidTown_UnknownPlace : PySem.W.kitOne TheK.K (.ref a.C_InvalidTown) (.ref a.C_UnknownPlace) = some false
  kt_InvalidTown_UnknownBridge : PySem.W.kitOne TheK.K (.ref a.C_InvalidTown) (.ref a.C_UnknownBridge) = some false
  kt_InvalidTown_UnknownKind : PySem.W.kitOne TheK.K (.ref a.C_InvalidTown) (.ref a.C_UnknownKind) = some false
  kt_InvalidTown_TooManyBridges : PySem.W.kitOne TheK.K (.ref a.C_InvalidTown) (.ref a.C_TooManyBridges) = some false
  kt_InvalidTown_DifferentTowns : PySem.W.kitOne TheK.K (.ref a.C_InvalidTown) (.ref a.C_DifferentTowns) = some false
  kt_InvalidTown_Contradiction : PySem.W.kitOne TheK.K (.ref a.C_InvalidTown) (.ref a.C_Contradiction) = some false
  kt_InvalidTown_ValueError : PySem.W.kitOne TheK.K (.ref a.C_InvalidTown) (.type "ValueError") = some true
  xm_InvalidTown_BridgeError : PySem.W.exmOne TheK.K (.ref a.C_InvalidTown) (.ref a.C_BridgeError) = some true
def kit_InvalidTown (a : Ad) (D : Addr) : Option Bool := if D = a.C_InvalidTown then some true else none
theorem kit_InvalidTown_ok {mg : Str → Option Value} {a : Ad} (X : Fx mg a) (D : Addr) (b : Bool) (h : kit_InvalidTown a D = some b) : ExcC TheK.K D ∧ PySem.W.kitOne TheK.K (.ref D) (.ref a.C_InvalidTown) = some b := by
  unfold kit_InvalidTown at h
  by_cases h0 : D = a.C_InvalidTown
  · rw [if_pos h0] at h; cases h; subst h0; exact ⟨X.ec_InvalidTown, X.kt_InvalidTown_InvalidTown⟩
  rw [if_neg h0] at h
  cases h
def kit_InvalidText (a : Ad) (D : Addr) : Option Bool := if D = a.C_InvalidTown then some false else none
theorem kit_InvalidText_ok {mg : Str → Option Value} {a : Ad} (X : Fx mg a) (D : Addr) (b : Bool) (h : kit_InvalidText a D = some b) : ExcC TheK.K D ∧ PySem.W.kitOne TheK.K (.ref D) (.ref a.C_InvalidText) = some b := by
  unfold kit_InvalidText at h
  by_cases h0 : D = a.C_InvalidTown
  · rw [if_pos h0] at h; cases h; subst h0; exact ⟨X.ec_InvalidTown, X.kt_InvalidTown_InvalidText⟩
  rw [if_neg h0] at h
  cases h
def kit_InvalidTrips (a : Ad) (D : Addr) : Option Bool := if D = a.C_InvalidTown then some false else none
theorem kit_InvalidTrips_ok {mg : Str → Option Value} {a : Ad} (X : Fx mg a) (D : Addr) (b : Bool) (h : kit_InvalidTrips a D = some b) : ExcC TheK.K D ∧ PySem.W.kitOne TheK.K (.ref D) (.ref a.C_InvalidTrips) = some b := by
  unfold kit_InvalidTrips at h
  by_cases h0 : D = a.C_InvalidTown
  · rw [if_pos h0] at h; cases h; subst h0; exact ⟨X.ec_InvalidTown, X.kt_InvalidTown_InvalidTrips⟩
  rw [if_neg h0] at h
  cases h
def kit_InvalidCount (a : Ad) (D : Addr) : Option Bool := if D = a.C_InvalidTown then some false else none
theorem kit_InvalidCount_ok {mg : Str → Option Value} {a : Ad} (X : Fx mg a) (D : Addr) (b : Bool) (h : kit_InvalidCount a D = some b) : ExcC TheK.K D ∧ PySem.W.kitOne TheK.K (.ref D) (.ref a.C_InvalidCount) = some b := by
  unfold kit_InvalidCount at h
  by_cases h0 : D = a.C_InvalidTown
  · rw [if_pos h0] at h; cases h; subst h0; exact ⟨X.ec_InvalidTown, X.kt_InvalidTown_InvalidCount⟩
  rw [if_neg h0] at h
  cases h
def kit_InvalidLife (a : Ad) (D : Addr) : Option Bool := if D = a.C_InvalidTown then some false else none
theorem kit_InvalidLife_ok {mg : Str → Option Value} {a : Ad} (X : Fx mg a) (D : Addr) (b : Bool) (h : kit_InvalidLife a D = some b) : ExcC TheK.K D ∧ PySem.W.kitOne TheK.K (.ref D) (.ref a.C_InvalidLife) = some b := by
  unfold kit_InvalidLife at h
  by_cases h0 : D = a.C_InvalidTown
  · rw [if_pos h0] at h; cases h; subst h0; exact ⟨X.ec_InvalidTown, X.kt_InvalidTown_InvalidLife⟩
  rw [if_neg h0] at h
  cases h
def kit_InvalidLoad (a : Ad) (D : Addr) : Option Bool := if D = a.C_InvalidTown then some false else none
theorem kit_InvalidLoad_ok {mg : Str → Option Value} {a : Ad} (X : Fx mg a) (D : Addr) (b : Bool) (h : kit_InvalidLoad a D = some b) : ExcC TheK.K D ∧ PySem.W.kitOne TheK.K (.ref D) (.ref a.C_InvalidLoad) = some b := by
  unfold kit_InvalidLoad at h
  by_cases h0 : D = a.C_InvalidTown
  · rw [if_pos h0] at h; cases h; subst h0; exact ⟨X.ec_InvalidTown, X.kt_InvalidTown_InvalidLoad⟩
  rw [if_neg h0] at h
  cases h
def kit_UnknownPlace (a : Ad) (D : Addr) : Option Bool := if D = a.C_InvalidTown then some false else none
theorem kit_UnknownPlace_ok {mg : Str → Option Value} {a : Ad} (X : Fx mg a) (D : Addr) (b : Bool) (h : kit_UnknownPlace a D = some b) : ExcC TheK.K D ∧ PySem.W.kitOne TheK.K (.ref D) (.ref a.C_UnknownPlace) = some b := by
  unfold kit_UnknownPlace at h
  by_cases h0 : D = a.C_InvalidTown
  · rw [if_pos h0] at h; cases h; subst h0; exact ⟨X.ec_InvalidTown, X.kt_InvalidTown_UnknownPlace⟩
  rw [if_neg h0] at h
  cases h
def kit_UnknownBridge (a : Ad) (D : Addr) : Option Bool := if D = a.C_InvalidTown then some false else none
theorem kit_UnknownBridge_ok {mg : Str → Option Value} {a : Ad} (X : Fx mg a) (D : Addr) (b : Bool) (h : kit_UnknownBridge a D = some b) : ExcC TheK.K D ∧ PySem.W.kitOne TheK.K (.ref D) (.ref a.C_UnknownBridge) = some b := by
  unfold kit_UnknownBridge at h
  by_cases h0 : D = a.C_InvalidTown
  · rw [if_pos h0] at h; cases h; subst h0; exact ⟨X.ec_InvalidTown, X.kt_InvalidTown_UnknownBridge⟩
  rw [if_neg h0] at h
  cases h
def kit_UnknownKind (a : Ad) (D : Addr) : Option Bool := if D = a.C_InvalidTown then some false else none
theorem kit_UnknownKind_ok {mg : Str → Option Value} {a : Ad} (X : Fx mg a) (D : Addr) (b : Bool) (h : kit_UnknownKind a D = some b) : ExcC TheK.K D ∧ PySem.W.kitOne TheK.K (.ref D) (.ref a.C_UnknownKind) = some b := by
  unfold kit_UnknownKind at h
  by_cases h0 : D = a.C_InvalidTown
  · rw [if_pos h0] at h; cases h; subst h0; exact ⟨X.ec_InvalidTown, X.kt_InvalidTown_UnknownKind⟩
  rw [if_neg h0] at h
  cases h
def kit_TooManyBridges (a : Ad) (D : Addr) : Option Bool := if D = a.C_InvalidTown then some false else none
theorem kit_TooManyBridges_ok {mg : Str → Option Value} {a : Ad} (X : Fx mg a) (D : Addr) (b : Bool) (h : kit_TooManyBridges a D = some b) : ExcC TheK.K D ∧ PySem.W.kitOne TheK.K (.ref D) (.ref a.C_TooManyBridges) = some b := by
  unfold kit_TooManyBridges at h
  by_cases h0 : D = a.C_InvalidTown
  · rw [if_pos h0] at h; cases h; subst h0; exact ⟨X.ec_InvalidTown, X.kt_InvalidTown_TooManyBridges⟩
  rw [if_neg h0] at h
  cases h
def kit_DifferentTowns (a : Ad) (D : Addr) : Option Bool := if D = a.C_InvalidTown then some false else none
theorem kit_DifferentTowns_ok {mg : Str → Option Value} {a : Ad} (X : Fx mg a) (D : Addr) (b : Bool) (h : kit_DifferentTowns a D = some b) : ExcC TheK.K D ∧ PySem.W.kitOne TheK.K (.ref D) (.ref a.C_DifferentTowns) = some b := by
  unfold kit_DifferentTowns at h
  by_cases h0 : D = a.C_InvalidTown
  · rw [if_pos h0] at h; cases h; subst h0; exact ⟨X.ec_InvalidTown, X.kt_InvalidTown_DifferentTowns⟩
  rw [if_neg h0] at h
  cases h
def kit_Contradiction (a : Ad) (D : Addr) : Option Bool := if D = a.C_InvalidTown then some false else none
theorem kit_Contradiction_ok {mg : Str → Option Value} {a : Ad} (X : Fx mg a) (D : Addr) (b : Bool) (h : kit_Contradiction a D = some b) : ExcC TheK.K D ∧ PySem.W.kitOne TheK.K (.ref D) (.ref a.C_Contradiction) = some b := by
  unfold kit_Contradiction at h
  by_cases h0 : D = a.C_InvalidTown
  · rw [if_pos h0] at h; cases h; subst h0; exact ⟨X.ec_InvalidTown, X.kt_InvalidTown_Contradiction⟩
  rw [if_neg h0] at h
  cases h
def kit_ValueError (a : Ad) (D : Addr) : Option Bool := if D = a.C_InvalidTown then some true else none
theorem kit_ValueError_ok {mg : Str → Option Value} {a : Ad} (X : Fx mg a) (D : Addr) (b : Bool) (h : kit_ValueError a D = some b) : ExcC TheK.K D ∧ PySem.W.kitOne TheK.K (.ref D) (.type "ValueError") = some b := by
  unfold kit_ValueError at h
  by_cases h0 : D = a.C_InvalidTown
  · rw [if_pos h0] at h; cases h; subst h0; exact ⟨X.ec_InvalidTown, X.kt_InvalidTown_ValueError⟩
  rw [if_neg h0] at h
  cases h
def exm_BridgeError (a : Ad) (D : Addr) : Option Bool := if D = a.C_InvalidTown then some true else none
theorem exm_BridgeError_ok {mg : Str → Option Value} {a : Ad} (X : Fx mg a) (D : Addr) (b : Bool) (h : exm_BridgeError a D = some b) : PySem.W.exmOne TheK.K (.ref D) (.ref a.C_BridgeError) = some b := by
  unfold exm_BridgeError at h
  by_cases h0 : D = a.C_InvalidTown
  · rw [if_pos h0] at h; cases h; subst h0; exact X.xm_InvalidTown_BridgeError
  rw [if_neg h0] at h
  cases h
/-! ### _law_mix -/
abbrev st_law_mix : Stmt := top 21
theorem nd_law_mix : ([("_law_script" : Str), ("_law_seed" : Str), ("_law_mixed" : Str), ("_law_cell" : Str)] : List Str).Nodup := by decide +kernel
def c_law_mix (a : Ad) : CS := (sSeq (sSet 2 (cVar 1)) (sSeq (sFor (CL.iSeq (cVar 0)) (gN 3) (sSet 2 (c2 oMod (c2 oAdd (c2 oAdd (c2 oMul (cVar 2) (cK (.int 48271))) (c2 oMod (cVar 3) (cK (.int 2147483629)))) (cK (.int 1))) (cK (.int 2147483647))))) (sRet (cToP (cLst (aCons (cVar 2) (aCons (cToP (cApp bList (aCons (cVar 0) aNil))) (aCons (cK (.int 0)) aNil))))))))
def g_law_mix (a : Ad) : G := run 4 (c_law_mix a)
theorem ok_law_mix {P : Program} {w : World} {mg : Str → Option Value} {base : Heap} {L : Tl} {a : Ad} (X : Fx mg a) : FnC P w TheK.K mg base L 1 a.f_law_mix a.d_law_mix [("_law_script" : Str), ("_law_seed" : Str)] (g_law_mix a) := by
  refine fn_d X.F_law_mix (N := [("_law_script" : Str), ("_law_seed" : Str), ("_law_mixed" : Str), ("_law_cell" : Str)]) (c := c_law_mix a) (k := 0) (by conv => lhs; whnf) (by conv => lhs; whnf) ⟨rfl, rfl, rfl, nd_law_mix, rfl, by decide +kernel, by decide +kernel⟩ ?_
  intro cdv A outer s H E I0 B0 hr
  exact (s_cons (s_set (i := 2) nd_law_mix rfl (by first | exact Or.inl rfl | exact Or.inr rfl) (e_var 1)) (s_cons (s_for (passes_of rfl) rfl (i_seq (e_var 0)) (g_name (i := 3) nd_law_mix rfl (by first | exact Or.inl rfl | exact Or.inr rfl)) (s_one (s_set (i := 2) nd_law_mix rfl (by first | exact Or.inl rfl | exact Or.inr rfl) (e_op op_mod k_mod (e_op op_addA k_add (e_op op_addA k_add (e_op op_mulA k_mul (e_var 2) e_int) (e_op op_mod k_mod (e_var 3) e_int)) e_int) e_int)))) (s_one (s_ret (e_toP (f_lst (a_cons (e_var 2) (a_cons (e_toP (f_list rfl X.z_list (a_cons (e_var 0) a_nil))) (a_cons e_int a_nil)))))))))
/-! ### _law_next -/
abbrev st_law_next : Stmt := top 22
theorem nd_law_next : ([("_law_h" : Str), ("_law_limit" : Str), ("_law_cell" : Str)] : List Str).Nodup := by decide +kernel
def c_law_next (a : Ad) : CS := (sSeq (sSet 2 (c2 oIx (c2 oAdd (c2 oIx (cVar 0) (cK (.int 1))) (cLst (aCons (cK (.int 0)) aNil))) (c2 oMod (cApp bInt (aCons (c2 oIx (cVar 0) (cK (.int 2))) aNil)) (cApp bMax2 (aCons (cK (.int 1)) (aCons (cApp bLen (aCons (c2 oIx (cVar 0) (cK (.int 1))) aNil)) aNil)))))) (sSeq (sIf (tB (c2 oGe (cVar 2) (c2 oPow (cK (.int 10)) (cK (.int 18))))) (sSeq (sItem (c2 oIx (cVar 0) (cK (.int 1))) (c2 oMod (cApp bInt (aCons (c2 oIx (cVar 0) (cK (.int 2))) aNil)) (cApp bLen (aCons (c2 oIx (cVar 0) (cK (.int 1))) aNil))) (c2 oDiv (cVar 2) (cVar 1))) (sRet (c2 oMod (cApp bInt (aCons (cVar 2) aNil)) (cVar 1)))) sNil) (sSeq (sItem (cVar 0) (cK (.int 0)) (c2 oMod (c2 oAdd (c2 oAdd (c2 oMul (c2 oIx (cVar 0) (cK (.int 0))) (cK (.int 48271))) (c2 oMul (cVar 2) (cK (.int 69621)))) (cK (.int 11))) (cK (.int 2147483647)))) (sSeq (sItem (cVar 0) (cK (.int 2)) (c2 oAdd (c2 oIx (cVar 0) (cK (.int 2))) (cK (.int 1)))) (sRet (c2 oMod (c2 oDiv (c2 oIx (cVar 0) (cK (.int 0))) (cK (.int 7))) (cVar 1)))))))
def g_law_next (a : Ad) : G := run 3 (c_law_next a)
theorem ok_law_next {P : Program} {w : World} {mg : Str → Option Value} {base : Heap} {L : Tl} {a : Ad} (X : Fx mg a) : FnC P w TheK.K mg base L 1 a.f_law_next a.d_law_next [("_law_h" : Str), ("_law_limit" : Str)] (g_law_next a) := by
  refine fn_d X.F_law_next (N := [("_law_h" : Str), ("_law_limit" : Str), ("_law_cell" : Str)]) (c := c_law_next a) (k := 0) (by conv => lhs; whnf) (by conv => lhs; whnf) ⟨rfl, rfl, rfl, nd_law_next, rfl, by decide +kernel, by decide +kernel⟩ ?_
  intro cdv A outer s H E I0 B0 hr
  exact (s_cons (s_set (i := 2) nd_law_next rfl (by first | exact Or.inl rfl | exact Or.inr rfl) (e_ix (e_op op_addA k_add (e_ix (e_var 0) e_int) (e_lst (a_cons e_int a_nil))) (e_op op_mod k_mod (e_callTy call_int1 (k_int) rfl X.z_int bt_int (a_cons (e_ix (e_var 0) e_int) a_nil)) (e_callB (call_max2 rfl) (k_max2) rfl X.z_max bt_max (a_cons e_int (a_cons (e_callB call_len (k_len rfl) rfl X.z_len bt_len (a_cons (e_ix (e_var 0) e_int) a_nil)) a_nil)))))) (s_cons (s_if (t_cmp op_ge k_ge (e_var 2) (e_op op_pow k_pow e_int e_int) rfl) (s_cons (s_item (e_op op_fdivW k_div (e_var 2) (e_var 1)) (e_ix (e_var 0) e_int) (e_op op_mod k_mod (e_callTy call_int1 (k_int) rfl X.z_int bt_int (a_cons (e_ix (e_var 0) e_int) a_nil)) (e_callB call_len (k_len rfl) rfl X.z_len bt_len (a_cons (e_ix (e_var 0) e_int) a_nil)))) (s_one (s_ret (e_op op_mod k_mod (e_callTy call_int1 (k_int) rfl X.z_int bt_int (a_cons (e_var 2) a_nil)) (e_var 1))))) s_nil) (s_cons (s_item (e_op op_mod k_mod (e_op op_addA k_add (e_op op_addA k_add (e_op op_mulA k_mul (e_ix (e_var 0) e_int) e_int) (e_op op_mulA k_mul (e_var 2) e_int)) e_int) e_int) (e_var 0) e_int) (s_cons (s_item (e_op op_addA k_add (e_ix (e_var 0) e_int) e_int) (e_var 0) e_int) (s_one (s_ret (e_op op_mod k_mod (e_op op_fdivW k_div (e_ix (e_var 0) e_int) e_int) (e_var 1))))))))
/-! ### _law_life -/
abbrev st_law_life : Stmt := top 25
theorem nd_law_life : ([("_law_h" : Str), ("_law_wide" : Str)] : List Str).Nodup := by decide +kernel
def c_law_life (a : Ad) : CS := (sRet (cCall (g_law_next a) (aCons (cVar 0) (aCons (c2 oIx (cLst (aCons (cK (.int 9)) (aCons (cK (.int 40)) (aCons (c2 oPow (cK (.int 10)) (cK (.int 6))) (aCons (c2 oAdd (c2 oPow (cK (.int 10)) (cK (.int 18))) (cK (.int 1))) aNil))))) (cCall (g_law_next a) (aCons (cVar 0) (aCons (cIf (tB (cVar 1)) (cK (.int 4)) (cK (.int 2))) aNil)))) aNil))))
def g_law_life (a : Ad) : G := run 2 (c_law_life a)
theorem ok_law_life {P : Program} {w : World} {mg : Str → Option Value} {base : Heap} {L : Tl} {a : Ad} (X : Fx mg a) : FnC P w TheK.K mg base L 2 a.f_law_life a.d_law_life [("_law_h" : Str), ("_law_wide" : Str)] (g_law_life a) := by
  refine fn_d X.F_law_life (N := [("_law_h" : Str), ("_law_wide" : Str)]) (c := c_law_life a) (k := 1) (by conv => lhs; whnf) (by conv => lhs; whnf) ⟨rfl, rfl, rfl, nd_law_life, rfl, by decide +kernel, by decide +kernel⟩ ?_
  intro cdv A outer s H E I0 B0 hr
  exact (s_one (s_ret (e_call (ok_law_next X) (hr.mono (by decide)) rfl X.m_law_next X.F_law_next.kp X.b_law_next (takes_of rfl rfl rfl rfl) (a_cons (e_var 0) (a_cons (e_ix (e_lst (a_cons e_int (a_cons e_int (a_cons (e_op op_pow k_pow e_int e_int) (a_cons (e_op op_addA k_add (e_op op_pow k_pow e_int e_int) e_int) a_nil))))) (e_call (ok_law_next X) (hr.mono (by decide)) rfl X.m_law_next X.F_law_next.kp X.b_law_next (takes_of rfl rfl rfl rfl) (a_cons (e_var 0) (a_cons (e_if (t_val (e_var 1)) e_int e_int) a_nil)) (an1 (an1 an0)))) a_nil)) (an1 (an1 an0)))))
/-! ### _law_links -/
abbrev st_law_links : Stmt := top 26
theorem nd_law_links : ([("_law_h" : Str), ("_law_count" : Str), ("_law_most" : Str), ("_law_wide" : Str), ("_law_found" : Str), ("_law_k" : Str), ("_law_one" : Str), ("_law_other" : Str)] : List Str).Nodup := by decide +kernel
def c_law_links (a : Ad) : CS := (sSeq (sSetL 4 (cLst aNil)) (sSeq (sFor (CL.iRange1 (cIf (tB (c2 oGt (cVar 1) (cK (.int 1)))) (cCall (g_law_next a) (aCons (cVar 0) (aCons (c2 oAdd (cVar 2) (cK (.int 1))) aNil))) (cK (.int 0)))) (gN 5) (sSeq (sSet 6 (cCall (g_law_next a) (aCons (cVar 0) (aCons (cVar 1) aNil)))) (sSeq (sSet 7 (c2 oMod (c2 oAdd (c2 oAdd (cVar 6) (cK (.int 1))) (cCall (g_law_next a) (aCons (cVar 0) (aCons (c2 oSub (cVar 1) (cK (.int 1))) aNil)))) (cVar 1))) (sAppend 4 (cTup (aCons (cVar 6) (aCons (cVar 7) (aCons (c2 oAdd (cK (.int 1)) (cCall (g_law_next a) (aCons (cVar 0) (aCons (c2 oIx (cLst (aCons (cK (.int 3)) (aCons (cK (.int 99)) aNil))) (c2 oDiv (cCall (g_law_next a) (aCons (cVar 0) (aCons (cK (.int 4)) aNil))) (cK (.int 3)))) aNil)))) (aCons (cCall (g_law_life a) (aCons (cVar 0) (aCons (cVar 3) aNil))) aNil))))))))) (sFrz 4 (sRet (cApp bTuple (aCons (cVar 4) aNil))))))
def g_law_links (a : Ad) : G := run 8 (c_law_links a)
theorem ok_law_links {P : Program} {w : World} {mg : Str → Option Value} {base : Heap} {L : Tl} {a : Ad} (X : Fx mg a) : FnC P w TheK.K mg base L 3 a.f_law_links a.d_law_links [("_law_h" : Str), ("_law_count" : Str), ("_law_most" : Str), ("_law_wide" : Str)] (g_law_links a) := by
  refine fn_d X.F_law_links (N := [("_law_h" : Str), ("_law_count" : Str), ("_law_most" : Str), ("_law_wide" : Str), ("_law_found" : Str), ("_law_k" : Str), ("_law_one" : Str), ("_law_other" : Str)]) (c := c_law_links a) (k := 2) (by conv => lhs; whnf) (by conv => lhs; whnf) ⟨rfl, rfl, rfl, nd_law_links, rfl, by decide +kernel, by decide +kernel⟩ ?_
  intro cdv A outer s H E I0 B0 hr
  exact (s_cons (s_setL (i := 4) nd_law_links rfl (Or.inl rfl) (f_lst a_nil)) (s_cons (s_for (passes_of rfl) rfl (i_range1 rfl X.z_range (e_if (t_cmp op_gt k_gt (e_var 1) e_int rfl) (e_call (ok_law_next X) (hr.mono (by decide)) rfl X.m_law_next X.F_law_next.kp X.b_law_next (takes_of rfl rfl rfl rfl) (a_cons (e_var 0) (a_cons (e_op op_addA k_add (e_var 2) e_int) a_nil)) (an1 (an1 an0))) e_int)) (g_name (i := 5) nd_law_links rfl (by first | exact Or.inl rfl | exact Or.inr rfl)) (s_cons (s_set (i := 6) nd_law_links rfl (by first | exact Or.inl rfl | exact Or.inr rfl) (e_call (ok_law_next X) (hr.mono (by decide)) rfl X.m_law_next X.F_law_next.kp X.b_law_next (takes_of rfl rfl rfl rfl) (a_cons (e_var 0) (a_cons (e_var 1) a_nil)) (an1 (an1 an0)))) (s_cons (s_set (i := 7) nd_law_links rfl (by first | exact Or.inl rfl | exact Or.inr rfl) (e_op op_mod k_mod (e_op op_addA k_add (e_op op_addA k_add (e_var 6) e_int) (e_call (ok_law_next X) (hr.mono (by decide)) rfl X.m_law_next X.F_law_next.kp X.b_law_next (takes_of rfl rfl rfl rfl) (a_cons (e_var 0) (a_cons (e_op op_sub k_sub (e_var 1) e_int) a_nil)) (an1 (an1 an0)))) (e_var 1))) (s_one (s_append (i := 4) (pv 4) (e_tup (a_cons (e_var 6) (a_cons (e_var 7) (a_cons (e_op op_addA k_add e_int (e_call (ok_law_next X) (hr.mono (by decide)) rfl X.m_law_next X.F_law_next.kp X.b_law_next (takes_of rfl rfl rfl rfl) (a_cons (e_var 0) (a_cons (e_ix (e_lst (a_cons e_int (a_cons e_int a_nil))) (e_op op_fdivW k_div (e_call (ok_law_next X) (hr.mono (by decide)) rfl X.m_law_next X.F_law_next.kp X.b_law_next (takes_of rfl rfl rfl rfl) (a_cons (e_var 0) (a_cons e_int a_nil)) (an1 (an1 an0))) e_int)) a_nil)) (an1 (an1 an0)))) (a_cons (e_call (ok_law_life X) (hr.mono (by decide)) rfl X.m_law_life X.F_law_life.kp X.b_law_life (takes_of rfl rfl rfl rfl) (a_cons (e_var 0) (a_cons (e_var 3) a_nil)) (an1 (an1 an0))) a_nil)))))))))) (s_one (s_frz (i := 4) (s_ret (e_callTy call_tuple_of (k_tuple rfl) rfl X.z_tuple bt_tuple (a_cons (e_var 4) a_nil)))))))
/-! ### _law_spoilt -/
abbrev st_law_spoilt : Stmt := top 30
theorem nd_law_spoilt : ([("_law_h" : Str), ("_law_count" : Str), ("_law_links_here" : Str), ("_law_k" : Str), ("_law_j" : Str), ("_law_odd" : Str), ("_law_link" : Str)] : List Str).Nodup := by decide +kernel
def c_law_spoilt (a : Ad) : CS := (sSeq (sIf (tB (c2 (oEq false) (cVar 2) (cTup aNil))) (sRet (cVar 2)) sNil) (sSeq (sPar 3 4 (aCons (cCall (g_law_next a) (aCons (cVar 0) (aCons (cApp bLen (aCons (cVar 2) aNil)) aNil))) (aCons (cCall (g_law_next a) (aCons (cVar 0) (aCons (cK (.int 4)) aNil))) aNil))) (sSeq (sSet 5 (c2 oIx (cLst (aCons (cLst (aCons (c1 oNeg (cK (.int 1))) (aCons (cVar 1) (aCons (c2 oIx (c2 oIx (cVar 2) (cVar 3)) (cK (.int 1))) aNil)))) (aCons (cLst (aCons (c1 oNeg (cK (.int 1))) (aCons (cVar 1) (aCons (c2 oIx (c2 oIx (cVar 2) (cVar 3)) (cK (.int 0))) aNil)))) (aCons (cLst (aCons (cK (.int 0)) (aCons (cK (.int 100)) (aCons (c1 oNeg (cK (.int 1))) (aCons (cK (.int 99)) aNil))))) (aCons (cLst (aCons (c1 oNeg (cK (.int 1))) (aCons (c2 oAdd (c2 oPow (cK (.int 10)) (cK (.int 18))) (cK (.int 1))) (aCons (c2 oPow (cK (.int 10)) (cK (.int 18))) aNil)))) aNil))))) (cVar 4))) (sSeq (sSet 6 (c2 oAdd (c2 oAdd (cCut (c2 oIx (cVar 2) (cVar 3)) oNone (oSome (cVar 4))) (cTup (aCons (c2 oIx (cVar 5) (cCall (g_law_next a) (aCons (cVar 0) (aCons (cApp bLen (aCons (cVar 5) aNil)) aNil)))) aNil))) (cCut (c2 oIx (cVar 2) (cVar 3)) (oSome (c2 oAdd (cVar 4) (cK (.int 1)))) oNone))) (sRet (c2 oAdd (c2 oAdd (cCut (cVar 2) oNone (oSome (cVar 3))) (cTup (aCons (cVar 6) aNil))) (cCut (cVar 2) (oSome (c2 oAdd (cVar 3) (cK (.int 1)))) oNone)))))))
def g_law_spoilt (a : Ad) : G := run 7 (c_law_spoilt a)
theorem ok_law_spoilt {P : Program} {w : World} {mg : Str → Option Value} {base : Heap} {L : Tl} {a : Ad} (X : Fx mg a) : FnC P w TheK.K mg base L 2 a.f_law_spoilt a.d_law_spoilt [("_law_h" : Str), ("_law_count" : Str), ("_law_links_here" : Str)] (g_law_spoilt a) := by
  refine fn_d X.F_law_spoilt (N := [("_law_h" : Str), ("_law_count" : Str), ("_law_links_here" : Str), ("_law_k" : Str), ("_law_j" : Str), ("_law_odd" : Str), ("_law_link" : Str)]) (c := c_law_spoilt a) (k := 1) (by conv => lhs; whnf) (by conv => lhs; whnf) ⟨rfl, rfl, rfl, nd_law_spoilt, rfl, by decide +kernel, by decide +kernel⟩ ?_
  intro cdv A outer s H E I0 B0 hr
  exact (s_cons (s_if (t_cmp (op_eqD hr.units) k_eq (e_var 2) (e_tup a_nil) rfl) (s_one (s_ret (e_var 2))) s_nil) (s_cons (s_par (i := 3) (j := 4) rfl nd_law_spoilt rfl rfl (by decide) rfl rfl (a_cons (e_call (ok_law_next X) (hr.mono (by decide)) rfl X.m_law_next X.F_law_next.kp X.b_law_next (takes_of rfl rfl rfl rfl) (a_cons (e_var 0) (a_cons (e_callB call_len (k_len rfl) rfl X.z_len bt_len (a_cons (e_var 2) a_nil)) a_nil)) (an1 (an1 an0))) (a_cons (e_call (ok_law_next X) (hr.mono (by decide)) rfl X.m_law_next X.F_law_next.kp X.b_law_next (takes_of rfl rfl rfl rfl) (a_cons (e_var 0) (a_cons e_int a_nil)) (an1 (an1 an0))) a_nil)) rfl) (s_cons (s_set (i := 5) nd_law_spoilt rfl (by first | exact Or.inl rfl | exact Or.inr rfl) (e_ix (e_lst (a_cons (e_lst (a_cons (e_un un_neg k_neg e_int) (a_cons (e_var 1) (a_cons (e_ix (e_ix (e_var 2) (e_var 3)) e_int) a_nil)))) (a_cons (e_lst (a_cons (e_un un_neg k_neg e_int) (a_cons (e_var 1) (a_cons (e_ix (e_ix (e_var 2) (e_var 3)) e_int) a_nil)))) (a_cons (e_lst (a_cons e_int (a_cons e_int (a_cons (e_un un_neg k_neg e_int) (a_cons e_int a_nil))))) (a_cons (e_lst (a_cons (e_un un_neg k_neg e_int) (a_cons (e_op op_addA k_add (e_op op_pow k_pow e_int e_int) e_int) (a_cons (e_op op_pow k_pow e_int e_int) a_nil)))) a_nil))))) (e_var 4))) (s_cons (s_set (i := 6) nd_law_spoilt rfl (by first | exact Or.inl rfl | exact Or.inr rfl) (e_op op_addA k_add (e_op op_addA k_add (e_cut (e_ix (e_var 2) (e_var 3)) o_none (o_some (e_var 4))) (e_tup (a_cons (e_ix (e_var 5) (e_call (ok_law_next X) (hr.mono (by decide)) rfl X.m_law_next X.F_law_next.kp X.b_law_next (takes_of rfl rfl rfl rfl) (a_cons (e_var 0) (a_cons (e_callB call_len (k_len rfl) rfl X.z_len bt_len (a_cons (e_var 5) a_nil)) a_nil)) (an1 (an1 an0)))) a_nil))) (e_cut (e_ix (e_var 2) (e_var 3)) (o_some (e_op op_addA k_add (e_var 4) e_int)) o_none))) (s_one (s_ret (e_op op_addA k_add (e_op op_addA k_add (e_cut (e_var 2) o_none (o_some (e_var 3))) (e_tup (a_cons (e_var 6) a_nil))) (e_cut (e_var 2) (o_some (e_op op_addA k_add (e_var 3) e_int)) o_none))))))))
/-! ### _law_is_link -/
abbrev st_law_is_link : Stmt := top 28
theorem nd_law_is_link : ([("_law_count" : Str), ("_law_link" : Str)] : List Str).Nodup := by decide +kernel
def c_law_is_link (a : Ad) : CS := (sSeq (sIf (CL.tOr (tB (c2 (oEq true) (cApp bLen (aCons (cVar 1) aNil)) (cK (.int 4)))) (CL.tOr (tNot (tB (cChain oLe oLt (cK (.int 0)) (c2 oIx (cVar 1) (cK (.int 0))) (cVar 0)))) (CL.tOr (tNot (tB (cChain oLe oLt (cK (.int 0)) (c2 oIx (cVar 1) (cK (.int 1))) (cVar 0)))) (tB (c2 (oEq false) (c2 oIx (cVar 1) (cK (.int 0))) (c2 oIx (cVar 1) (cK (.int 1)))))))) (sRet (cK (.bl false))) sNil) (sRet (cAnd (cChain oLe oLe (cK (.int 1)) (c2 oIx (cVar 1) (cK (.int 2))) (cK (.int 99))) (cChain oLe oLe (cK (.int 0)) (c2 oIx (cVar 1) (cK (.int 3))) (c2 oPow (cK (.int 10)) (cK (.int 18)))))))
def g_law_is_link (a : Ad) : G := run 2 (c_law_is_link a)
theorem ok_law_is_link {P : Program} {w : World} {mg : Str → Option Value} {base : Heap} {L : Tl} {a : Ad} (X : Fx mg a) : FnC P w TheK.K mg base L 1 a.f_law_is_link a.d_law_is_link [("_law_count" : Str), ("_law_link" : Str)] (g_law_is_link a) := by
  refine fn_d X.F_law_is_link (N := [("_law_count" : Str), ("_law_link" : Str)]) (c := c_law_is_link a) (k := 0) (by conv => lhs; whnf) (by conv => lhs; whnf) ⟨rfl, rfl, rfl, nd_law_is_link, rfl, by decide +kernel, by decide +kernel⟩ ?_
  intro cdv A outer s H E I0 B0 hr
  exact (s_cons (s_if (t_w (w_or (t_cmp (op_neD hr.units) k_ne (e_callB call_len (k_len rfl) rfl X.z_len bt_len (a_cons (e_var 1) a_nil)) e_int rfl) (w_or (CL.t_not (t_chain op_le op_lt k_le k_lt e_int (e_ix (e_var 1) e_int) (e_var 0))) (w_or (CL.t_not (t_chain op_le op_lt k_le k_lt e_int (e_ix (e_var 1) e_int) (e_var 0))) (w_or1 (t_cmp (op_eqD hr.units) k_eq (e_ix (e_var 1) e_int) (e_ix (e_var 1) e_int) rfl)))))) (s_one (s_ret e_bl)) s_nil) (s_one (s_ret (e_and (e_chain op_le op_le k_le k_le e_int (e_ix (e_var 1) e_int) e_int) (e_one (e_chain op_le op_le k_le k_le e_int (e_ix (e_var 1) e_int) (e_op op_pow k_pow e_int e_int)))))))
/-! ### _law_first_bad -/
abbrev st_law_first_bad : Stmt := top 29
theorem nd_law_first_bad : ([("_law_count" : Str), ("_law_links_here" : Str), ("_law_k" : Str)] : List Str).Nodup := by decide +kernel
def c_law_first_bad (a : Ad) : CS := (sSeq (sIf (tNot (tB (cChain oLe oLe (cK (.int 1)) (cVar 0) (cK (.int 12))))) (sRet (cTup (aCons (cK (.str ("count" : Str))) (aCons (cK (.int 0)) aNil)))) sNil) (sSeq (sFor (CL.iRange1 (cApp bLen (aCons (cVar 1) aNil))) (gN 2) (sIf (CL.tOr (tB (c2 (oEq false) (cVar 2) (cK (.int 24)))) (tNot (tB (cCall (g_law_is_link a) (aCons (cVar 0) (aCons (c2 oIx (cVar 1) (cVar 2)) aNil)))))) (sRet (cTup (aCons (cK (.str ("bridges" : Str))) (aCons (cVar 2) aNil)))) sNil)) (sRet (cK .non))))
def g_law_first_bad (a : Ad) : G := run 3 (c_law_first_bad a)
theorem ok_law_first_bad {P : Program} {w : World} {mg : Str → Option Value} {base : Heap} {L : Tl} {a : Ad} (X : Fx mg a) : FnC P w TheK.K mg base L 2 a.f_law_first_bad a.d_law_first_bad [("_law_count" : Str), ("_law_links_here" : Str)] (g_law_first_bad a) := by
  refine fn_d X.F_law_first_bad (N := [("_law_count" : Str), ("_law_links_here" : Str), ("_law_k" : Str)]) (c := c_law_first_bad a) (k := 1) (by conv => lhs; whnf) (by conv => lhs; whnf) ⟨rfl, rfl, rfl, nd_law_first_bad, rfl, by decide +kernel, by decide +kernel⟩ ?_
  intro cdv A outer s H E I0 B0 hr
  exact (s_cons (s_if (CL.t_not (t_chain op_le op_le k_le k_le e_int (e_var 0) e_int)) (s_one (s_ret (e_tup (a_cons e_str (a_cons e_int a_nil))))) s_nil) (s_cons (s_for (passes_of rfl) rfl (i_range1 rfl X.z_range (e_callB call_len (k_len rfl) rfl X.z_len bt_len (a_cons (e_var 1) a_nil))) (g_name (i := 2) nd_law_first_bad rfl (by first | exact Or.inl rfl | exact Or.inr rfl)) (s_one (s_if (t_w (w_or (t_cmp (op_eqD hr.units) k_eq (e_var 2) e_int rfl) (w_or1 (CL.t_not (t_val (e_call (ok_law_is_link X) (hr.mono (by decide)) rfl X.m_law_is_link X.F_law_is_link.kp X.b_law_is_link (takes_of rfl rfl rfl rfl) (a_cons (e_var 0) (a_cons (e_ix (e_var 1) (e_var 2)) a_nil)) (an1 (an1 an0)))))))) (s_one (s_ret (e_tup (a_cons e_str (a_cons (e_var 2) a_nil))))) s_nil))) (s_one (s_ret e_non))))
/-! ### _law_error -/
abbrev st_law_error : Stmt := top 24
theorem nd_law_error : ([("_law_call" : Str), ("e" : Str), ("_law_kinds" : Str), ("_law_names" : Str), ("_law_name" : Str)] : List Str).Nodup := by decide +kernel
theorem sc_law_error : FnScope [("_law_call" : Str), ("e" : Str), ("_law_kinds" : Str), ("_law_names" : Str), ("_law_name" : Str)] [("_law_call" : Str)] (defScope st_law_error) := ⟨rfl, rfl, rfl, by decide +kernel, rfl, by decide +kernel, by decide +kernel⟩
def cb_law_error (a : Ad) (ac : CE) : CS := (sSeq (sTryAs 1 (exm_BridgeError a) (sExpr ac) (sSeq (sSetL 2 (cLst (aCons (cIsE 1 (kit_InvalidTown a)) (aCons (cIsE 1 (kit_InvalidText a)) (aCons (cIsE 1 (kit_InvalidTrips a)) aNil))))) (sSeq (sExtend 2 (cLst (aCons (cIsE 1 (kit_InvalidCount a)) (aCons (cIsE 1 (kit_InvalidLife a)) (aCons (cIsE 1 (kit_InvalidLoad a)) aNil))))) (sSeq (sExtend 2 (cLst (aCons (cIsE 1 (kit_UnknownPlace a)) (aCons (cIsE 1 (kit_UnknownBridge a)) (aCons (cIsE 1 (kit_UnknownKind a)) aNil))))) (sSeq (sExtend 2 (cLst (aCons (cIsE 1 (kit_TooManyBridges a)) (aCons (cIsE 1 (kit_DifferentTowns a)) (aCons (cIsE 1 (kit_Contradiction a)) aNil))))) (sSeq (sFrz 2 (sIf (CL.tOr (tB (c2 (oEq true) (cLm oCount (cVar 2) (cK (.bl true))) (cK (.int 1)))) (tNot (tB (cIsE 1 (kit_ValueError a))))) (sRet (cTup (aCons (cK (.str ("other" : Str))) aNil))) sNil)) (sSeq (sSet 3 (cLst (aCons (cK (.str ("town" : Str))) (aCons (cK (.str ("text" : Str))) (aCons (cK (.str ("trips" : Str))) (aCons (cK (.str ("count" : Str))) (aCons (cK (.str ("life" : Str))) (aCons (cK (.str ("load" : Str))) (aCons (cK (.str ("place" : Str))) (aCons (cK (.str ("bridge" : Str))) (aCons (cK (.str ("kind" : Str))) (aCons (cK (.str ("many" : Str))) (aCons (cK (.str ("sizes" : Str))) aNil))))))))))))) (sSeq (sSet 4 (c2 oIx (c2 oAdd (cVar 3) (cLst (aCons (cK (.str ("contradiction" : Str))) aNil))) (cLm oIndex (cVar 2) (cK (.bl true))))) (sSeq (sIf (tB (c2 (oEq false) (cVar 4) (cK (.str ("town" : Str))))) (sRet (cTup (aCons (cVar 4) (aCons (cXf a.C_InvalidTown ("part" : Str) 1) (aCons (cXf a.C_InvalidTown ("index" : Str) 1) aNil))))) sNil) (sSeq (sIf (tB (c2 (oEq false) (cVar 4) (cK (.str ("text" : Str))))) (sRet (cTup (aCons (cVar 4) (aCons (cXf a.C_InvalidText ("row" : Str) 1) aNil)))) sNil) (sRet (cIf (tB (c2 (oEq false) (cVar 4) (cK (.str ("trips" : Str))))) (cTup (aCons (cVar 4) (aCons (cXf a.C_InvalidTrips ("index" : Str) 1) aNil))) (cTup (aCons (cVar 4) aNil)))))))))))))) (sRet (cTup (aCons (cK (.str ("none" : Str))) aNil))))
theorem body_law_error {P : Program} {w : World} {mg : Str → Option Value} {base : Heap} {a : Ad} (X : Fx mg a) {A : Around} {outer : List Env} {cdg : Value} {s : Shared} {H : Hp} {I0 : List Addr} {B0 : Hp} {L : Tl} {FF : Option (Addr × List Addr × Hp × Hp)} {ac : CE} {k : Nat} (hr : Room k (A.deeper (envOfC ("_law_error" : Str) (defScope st_law_error) s.heap.objs.size a.f_law_error cdg)))
    (hac : ∀ (W : WX) (pn : List (Addr × Obj)) (xe : Value → Shared → Prop) (p1 p2 : Pos), Takes ((cxOf C8.CX0 P w TheK.K mg base [("_law_call" : Str), ("e" : Str), ("_law_kinds" : Str), ("_law_names" : Str), ("_law_name" : Str)] ("_law_error" : Str) (defScope st_law_error) a.f_law_error cdg A outer s H C8.E0).tr pn xe) W → PE ((cxOf C8.CX0 P w TheK.K mg base [("_law_call" : Str), ("e" : Str), ("_law_kinds" : Str), ("_law_names" : Str), ("_law_name" : Str)] ("_law_error" : Str) (defScope st_law_error) a.f_law_error cdg A outer s H C8.E0).tr pn xe) (.Call (.Name ("_law_call" : Str) p1) [] [] p2) (rdE ⟨L, none, FF⟩ W ac)) :
    PSs (cxOf C8.CX0 P w TheK.K mg base [("_law_call" : Str), ("e" : Str), ("_law_kinds" : Str), ("_law_names" : Str), ("_law_name" : Str)] ("_law_error" : Str) (defScope st_law_error) a.f_law_error cdg A outer s H C8.E0).nox (defBody st_law_error) (rdS ⟨L, none, FF⟩ I0 B0 H wNo (cb_law_error a ac)) := by
  refine body_d (c := cb_law_error a ac) (by conv => lhs; whnf) (by conv => lhs; whnf) ?_ hr hac
  clear hac hr
  intro hr hac
  exact (s_cons (s_tryAs (i := 1) rfl rfl nd_law_error rfl rfl (c := .ref a.C_BridgeError) ⟨rfl, by decide, .inl X.m_BridgeError⟩ takes0 (exm_BridgeError_ok X) (fun W pn xe tk hp => (s_one (s_expr (hac _ _ _ _ _ tk)))) (fun b oe cls d pn hz hf => (s_cons (s_setL (i := 2) nd_law_error rfl (Or.inl rfl) (f_lst (a_cons (e_isE (i := 1) (cv := .ref a.C_InvalidTown) (v := .ref a.C_InvalidTown) hz hf rfl (Or.inl rfl) (pe_glob (v := .ref a.C_InvalidTown) (X := (_ : Cx).suite _ _) rfl X.m_InvalidTown rfl) (fun _ h => h) (kit_InvalidTown_ok X) rfl X.z_isinstance bt_isinstance) (a_cons (e_isE (i := 1) (cv := .ref a.C_InvalidText) (v := .ref a.C_InvalidText) hz hf rfl (Or.inl rfl) (pe_glob (v := .ref a.C_InvalidText) (X := (_ : Cx).suite _ _) rfl X.m_InvalidText rfl) (fun _ h => h) (kit_InvalidText_ok X) rfl X.z_isinstance bt_isinstance) (a_cons (e_isE (i := 1) (cv := .ref a.C_InvalidTrips) (v := .ref a.C_InvalidTrips) hz hf rfl (Or.inl rfl) (pe_glob (v := .ref a.C_InvalidTrips) (X := (_ : Cx).suite _ _) rfl X.m_InvalidTrips rfl) (fun _ h => h) (kit_InvalidTrips_ok X) rfl X.z_isinstance bt_isinstance) a_nil))))) (s_cons (s_extend (i := 2) (pv 2) (e_lst (a_cons (e_isE (i := 1) (cv := .ref a.C_InvalidCount) (v := .ref a.C_InvalidCount) hz hf rfl (Or.inl rfl) (pe_glob (v := .ref a.C_InvalidCount) (X := (_ : Cx).suite _ _) rfl X.m_InvalidCount rfl) (fun _ h => h) (kit_InvalidCount_ok X) rfl X.z_isinstance bt_isinstance) (a_cons (e_isE (i := 1) (cv := .ref a.C_InvalidLife) (v := .ref a.C_InvalidLife) hz hf rfl (Or.inl rfl) (pe_glob (v := .ref a.C_InvalidLife) (X := (_ : Cx).suite _ _) rfl X.m_InvalidLife rfl) (fun _ h => h) (kit_InvalidLife_ok X) rfl X.z_isinstance bt_isinstance) (a_cons (e_isE (i := 1) (cv := .ref a.C_InvalidLoad) (v := .ref a.C_InvalidLoad) hz hf rfl (Or.inl rfl) (pe_glob (v := .ref a.C_InvalidLoad) (X := (_ : Cx).suite _ _) rfl X.m_InvalidLoad rfl) (fun _ h => h) (kit_InvalidLoad_ok X) rfl X.z_isinstance bt_isinstance) a_nil))))) (s_cons (s_extend (i := 2) (pv 2) (e_lst (a_cons (e_isE (i := 1) (cv := .ref a.C_UnknownPlace) (v := .ref a.C_UnknownPlace) hz hf rfl (Or.inl rfl) (pe_glob (v := .ref a.C_UnknownPlace) (X := (_ : Cx).suite _ _) rfl X.m_UnknownPlace rfl) (fun _ h => h) (kit_UnknownPlace_ok X) rfl X.z_isinstance bt_isinstance) (a_cons (e_isE (i := 1) (cv := .ref a.C_UnknownBridge) (v := .ref a.C_UnknownBridge) hz hf rfl (Or.inl rfl) (pe_glob (v := .ref a.C_UnknownBridge) (X := (_ : Cx).suite _ _) rfl X.m_UnknownBridge rfl) (fun _ h => h) (kit_UnknownBridge_ok X) rfl X.z_isinstance bt_isinstance) (a_cons (e_isE (i := 1) (cv := .ref a.C_UnknownKind) (v := .ref a.C_UnknownKind) hz hf rfl (Or.inl rfl) (pe_glob (v := .ref a.C_UnknownKind) (X := (_ : Cx).suite _ _) rfl X.m_UnknownKind rfl) (fun _ h => h) (kit_UnknownKind_ok X) rfl X.z_isinstance bt_isinstance) a_nil))))) (s_cons (s_extend (i := 2) (pv 2) (e_lst (a_cons (e_isE (i := 1) (cv := .ref a.C_TooManyBridges) (v := .ref a.C_TooManyBridges) hz hf rfl (Or.inl rfl) (pe_glob (v := .ref a.C_TooManyBridges) (X := (_ : Cx).suite _ _) rfl X.m_TooManyBridges rfl) (fun _ h => h) (kit_TooManyBridges_ok X) rfl X.z_isinstance bt_isinstance) (a_cons (e_isE (i := 1) (cv := .ref a.C_DifferentTowns) (v := .ref a.C_DifferentTowns) hz hf rfl (Or.inl rfl) (pe_glob (v := .ref a.C_DifferentTowns) (X := (_ : Cx).suite _ _) rfl X.m_DifferentTowns rfl) (fun _ h => h) (kit_DifferentTowns_ok X) rfl X.z_isinstance bt_isinstance) (a_cons (e_isE (i := 1) (cv := .ref a.C_Contradiction) (v := .ref a.C_Contradiction) hz hf rfl (Or.inl rfl) (pe_glob (v := .ref a.C_Contradiction) (X := (_ : Cx).suite _ _) rfl X.m_Contradiction rfl) (fun _ h => h) (kit_Contradiction_ok X) rfl X.z_isinstance bt_isinstance) a_nil))))) (s_cons (s_frz (i := 2) (s_if (t_w (w_or (t_cmp (op_neD hr.units) k_ne (e_count (e_var 2) e_bl) e_int rfl) (w_or1 (CL.t_not (t_val (e_isE (i := 1) (cv := .type "ValueError") (v := .ty "ValueError") hz hf rfl (Or.inl rfl) (pe_bltn (v := .ty "ValueError") (X := (_ : Cx).suite _ _) rfl X.z_ValueError bt_ValueError rfl) (fun _ h => h) (kit_ValueError_ok X) rfl X.z_isinstance bt_isinstance)))))) (s_one (s_ret (e_tup (a_cons e_str a_nil)))) s_nil)) (s_cons (s_set (i := 3) nd_law_error rfl (by first | exact Or.inl rfl | exact Or.inr rfl) (e_lst (a_cons e_str (a_cons e_str (a_cons e_str (a_cons e_str (a_cons e_str (a_cons e_str (a_cons e_str (a_cons e_str (a_cons e_str (a_cons e_str (a_cons e_str a_nil))))))))))))) (s_cons (s_set (i := 4) nd_law_error rfl (by first | exact Or.inl rfl | exact Or.inr rfl) (e_ix (e_op op_addA k_add (e_var 3) (e_lst (a_cons e_str a_nil))) (e_index (e_var 2) e_bl))) (s_cons (s_if (t_cmp (op_eqD hr.units) k_eq (e_var 4) e_str rfl) (s_one (s_ret (e_tup (a_cons (e_var 4) (a_cons (e_xf (i := 1) hz hf rfl (Or.inl rfl) X.xf_InvalidTown X.n_InvalidTown_part) (a_cons (e_xf (i := 1) hz hf rfl (Or.inl rfl) X.xf_InvalidTown X.n_InvalidTown_index) a_nil)))))) s_nil) (s_cons (s_if (t_cmp (op_eqD hr.units) k_eq (e_var 4) e_str rfl) (s_one (s_ret (e_tup (a_cons (e_var 4) (a_cons (e_xf (i := 1) hz hf rfl (Or.inl rfl) X.xf_InvalidText X.n_InvalidText_row) a_nil))))) s_nil) (s_one (s_ret (e_if (t_cmp (op_eqD hr.units) k_eq (e_var 4) e_str rfl) (e_tup (a_cons (e_var 4) (a_cons (e_xf (i := 1) hz hf rfl (Or.inl rfl) X.xf_InvalidTrips X.n_InvalidTrips_index) a_nil))) (e_tup (a_cons (e_var 4) a_nil)))))))))))))))) (s_one (s_ret (e_tup (a_cons e_str a_nil)))))
/-! ### Town.is_bridge -/
abbrev st_Town_is_bridge : Stmt := inClass (top 19) 4
theorem nd_Town_is_bridge : ([("count" : Str), ("bridge" : Str), ("one" : Str), ("other" : Str), ("length" : Str), ("life" : Str)] : List Str).Nodup := by decide +kernel
def c_Town_is_bridge (a : Ad) : CS := (sSeq (sIf (tB (c2 (oEq true) (cApp bLen (aCons (cVar 1) aNil)) (cK (.int 4)))) (sRet (cK (.bl false))) sNil) (sSeq (sAsg (cVar 1) (CL.gTup 4 (gCons (gN 2) (gCons (gN 3) (gCons (gN 4) (gCons (gN 5) gNil)))))) (sSeq (sIf (CL.tOr (tNot (tB (cChain oLe oLt (cK (.int 0)) (cVar 2) (cVar 0)))) (CL.tOr (tNot (tB (cChain oLe oLt (cK (.int 0)) (cVar 3) (cVar 0)))) (tB (c2 (oEq false) (cVar 2) (cVar 3))))) (sRet (cK (.bl false))) sNil) (sRet (cAnd (cChain oLe oLe (cK (.int 1)) (cVar 4) (cK (.int 99))) (cChain oLe oLe (cK (.int 0)) (cVar 5) (cVal a.C_Town (.int 1000000000000000000) (cK (.ref a.C_Town)))))))))
def g_Town_is_bridge (a : Ad) : G := run 6 (c_Town_is_bridge a)
theorem ok_Town_is_bridge {P : Program} {w : World} {mg : Str → Option Value} {base : Heap} {L : Tl} {a : Ad} (X : Fx mg a) : FnC P w TheK.K mg base L 1 a.f_Town_is_bridge a.d_Town_is_bridge [("count" : Str), ("bridge" : Str)] (g_Town_is_bridge a) := by
  refine fn_d X.F_Town_is_bridge (N := [("count" : Str), ("bridge" : Str), ("one" : Str), ("other" : Str), ("length" : Str), ("life" : Str)]) (c := c_Town_is_bridge a) (k := 0) (by conv => lhs; whnf) (by conv => lhs; whnf) ⟨rfl, rfl, rfl, nd_Town_is_bridge, rfl, by decide +kernel, by decide +kernel⟩ ?_
  intro cdv A outer s H E I0 B0 hr
  exact (s_cons (s_if (t_cmp (op_neD hr.units) k_ne (e_callB call_len (k_len rfl) rfl X.z_len bt_len (a_cons (e_var 1) a_nil)) e_int rfl) (s_one (s_ret e_bl)) s_nil) (s_cons (s_asg (e_var 1) (g_tup rfl (g_cons (g_name (i := 2) nd_Town_is_bridge rfl (by first | exact Or.inl rfl | exact Or.inr rfl)) (g_cons (g_name (i := 3) nd_Town_is_bridge rfl (by first | exact Or.inl rfl | exact Or.inr rfl)) (g_cons (g_name (i := 4) nd_Town_is_bridge rfl (by first | exact Or.inl rfl | exact Or.inr rfl)) (g_cons (g_name (i := 5) nd_Town_is_bridge rfl (by first | exact Or.inl rfl | exact Or.inr rfl)) g_nil)))))) (s_cons (s_if (t_w (w_or (CL.t_not (t_chain op_le op_lt k_le k_lt e_int (e_var 2) (e_var 0))) (w_or (CL.t_not (t_chain op_le op_lt k_le k_lt e_int (e_var 3) (e_var 0))) (w_or1 (t_cmp (op_eqD hr.units) k_eq (e_var 2) (e_var 3) rfl))))) (s_one (s_ret e_bl)) s_nil) (s_one (s_ret (e_and (e_chain op_le op_le k_le k_le e_int (e_var 4) (e_globI rfl X.m_MAX_LENGTH)) (e_one (e_chain op_le op_le k_le k_le e_int (e_var 5) (e_cval (e_glob rfl X.m_Town) X.r_Town X.v_Town_MAX_LIFE fun _ _ => rfl)))))))))
/-! ### Town.__init__ -/
abbrev st_Town__init : Stmt := inClass (top 19) 3
theorem nd_Town__init : ([("self" : Str), ("count" : Str), ("bridges" : Str), ("index" : Str), ("bridge" : Str)] : List Str).Nodup := by decide +kernel
def c_Town__init (a : Ad) : CS := (sSeq (sIf (tNot (tB (cChain oLe oLe (cK (.int 1)) (cVar 1) (cVal a.C_Town (.int 12) (cK (.ref a.C_Town)))))) (sRaiseK a.C_InvalidTown [("part" : Str), ("index" : Str)] (aCons (cK (.str ("count" : Str))) (aCons (cK (.int 0)) aNil))) sNil) (sSeq (sFor (CL.iEnum (cVar 2)) (CL.gTup 2 (gCons (gN 3) (gCons (gN 4) gNil))) (sIf (CL.tOr (tB (c2 (oEq false) (cVar 3) (cVal a.C_Town (.int 24) (cK (.ref a.C_Town))))) (tNot (tB (cStat a.C_Town (g_Town_is_bridge a) (cK (.ref a.C_Town)) (aCons (cVar 1) (aCons (cVar 4) aNil)))))) (sRaiseK a.C_InvalidTown [("part" : Str), ("index" : Str)] (aCons (cK (.str ("bridges" : Str))) (aCons (cVar 3) aNil))) sNil)) (sSeq (sField a.C_Town ("size" : Str) (cVar 0) (cVar 1)) (sField a.C_Town ("links" : Str) (cVar 0) (cVar 2)))))
def g_Town__init (a : Ad) : G := run 5 (c_Town__init a)
theorem ok_Town__init {P : Program} {w : World} {mg : Str → Option Value} {base : Heap} {L : Tl} {a : Ad} (X : Fx mg a) : FnC P w TheK.K mg base L 3 a.f_Town__init a.d_Town__init [("self" : Str), ("count" : Str), ("bridges" : Str)] (g_Town__init a) := by
  refine fn_d X.F_Town__init (N := [("self" : Str), ("count" : Str), ("bridges" : Str), ("index" : Str), ("bridge" : Str)]) (c := c_Town__init a) (k := 2) (by conv => lhs; whnf) (by conv => lhs; whnf) ⟨rfl, rfl, rfl, nd_Town__init, rfl, by decide +kernel, by decide +kernel⟩ ?_
  intro cdv A outer s H E I0 B0 hr
  exact (s_cons (s_if (CL.t_not (t_chain op_le op_le k_le k_le e_int (e_var 1) (e_cval (e_glob rfl X.m_Town) X.r_Town X.v_Town_MAX_PLACES fun _ _ => rfl))) (s_one (s_raiseK rfl (takes_of rfl rfl rfl rfl) (X.x_InvalidTown w base) (hr.mono (by decide)) rfl X.m_InvalidTown (kw_cons e_str (kw_cons e_int kw_nil)))) s_nil) (s_cons (s_for (passes_of rfl) rfl (i_enum rfl X.z_enumerate (e_var 2)) (g_tup rfl (g_cons (g_name (i := 3) nd_Town__init rfl (by first | exact Or.inl rfl | exact Or.inr rfl)) (g_cons (g_name (i := 4) nd_Town__init rfl (by first | exact Or.inl rfl | exact Or.inr rfl)) g_nil))) (s_one (s_if (t_w (w_or (t_cmp (op_eqD hr.units) k_eq (e_var 3) (e_cval (e_glob rfl X.m_Town) X.r_Town X.v_Town_MAX_BRIDGES fun _ _ => rfl) rfl) (w_or1 (CL.t_not (t_val (e_stat (e_glob rfl X.m_Town) X.r_Town X.s_Town_is_bridge (ok_Town_is_bridge X) (hr.mono (by decide)) X.b_Town_is_bridge (takes_of rfl rfl rfl rfl) (a_cons (e_var 1) (a_cons (e_var 4) a_nil)) (an1 (an1 an0)))))))) (s_one (s_raiseK rfl (takes_of rfl rfl rfl rfl) (X.x_InvalidTown w base) (hr.mono (by decide)) rfl X.m_InvalidTown (kw_cons e_str (kw_cons (e_var 3) kw_nil)))) s_nil))) (s_cons (s_field (e_var 0) (e_var 1) X.c_Town X.n_Town_size) (s_one (s_field (e_var 0) (e_var 2) X.c_Town X.n_Town_links)))))
/-! ### _law_alike -/
abbrev st_law_alike : Stmt := top 23
theorem nd_law_alike : ([("_law_found" : Str), ("_law_due" : Str), ("_law_k" : Str)] : List Str).Nodup := by decide +kernel
def c_law_alike (a : Ad) (gr : G) : CS := (sSeq (sIf (tB (cApp bIsi (aCons (cVar 1) (aCons (cK (.ty "dict")) aNil)))) sNever sNil) (sSeq (sIf (tB (cApp bIsi (aCons (cVar 1) (aCons (cTup (aCons (cK (.ty "tuple")) (aCons (cK (.ty "list")) aNil))) aNil)))) (sSeq (sIf (CL.tOr (tNot (tB (cApp bIsi (aCons (cVar 0) (aCons (cTup (aCons (cK (.ty "tuple")) (aCons (cK (.ty "list")) aNil))) aNil))))) (tB (c2 (oEq true) (cApp bIsi (aCons (cVar 0) (aCons (cK (.ty "list")) aNil))) (cApp bIsi (aCons (cVar 1) (aCons (cK (.ty "list")) aNil)))))) (sRet (cK (.bl false))) sNil) (sSeq (sIf (tB (c2 (oEq true) (cApp bLen (aCons (cVar 0) aNil)) (cApp bLen (aCons (cVar 1) aNil)))) (sRet (cK (.bl false))) sNil) (sRet (c2 (oEq false) (cLc (CL.iRange1 (cApp bLen (aCons (cVar 1) aNil))) (gN 2) (tNot (tB (cCall gr (aCons (c2 oIx (cVar 0) (cVar 2)) (aCons (c2 oIx (cVar 1) (cVar 2)) aNil))))) (cVar 2) [2]) (cLst aNil))))) sNil) (sSeq (sIf (CL.tOr (tB (c2 xIsN (cVar 1) (cK .non))) (tB (cApp bIsi (aCons (cVar 1) (aCons (cK (.ty "str")) aNil))))) (sRet (cAnd (c2 (oEq false) (cVar 0) (cVar 1)) (c2 (oEq false) (cApp bIsi (aCons (cVar 0) (aCons (cK (.ty "str")) aNil))) (cApp bIsi (aCons (cVar 1) (aCons (cK (.ty "str")) aNil)))))) sNil) (sRet (cAnd (cApp bIsi (aCons (cVar 0) (aCons (cK (.ty "int")) aNil))) (cAnd (c2 (oEq false) (cApp bIsi (aCons (cVar 0) (aCons (cK (.ty "bool")) aNil))) (cApp bIsi (aCons (cVar 1) (aCons (cK (.ty "bool")) aNil)))) (c2 (oEq false) (cVar 0) (cVar 1))))))))
def g_law_alike (a : Ad) : Nat → G
  | 0 => fun _ _ => .bad
  | n + 1 => run 3 (c_law_alike a (g_law_alike a n))
theorem ok_law_alike {P : Program} {w : World} {mg : Str → Option Value} {base : Heap} {L : Tl} {a : Ad} : ∀ (n : Nat) (X : Fx mg a), FnC P w TheK.K mg base L (1 + n) a.f_law_alike a.d_law_alike [("_law_found" : Str), ("_law_due" : Str)] (g_law_alike a n)
  | 0, X => FnC.no
  | n + 1, X => by
    have hrec := ok_law_alike (P := P) (w := w) (base := base) (L := L) n X
    refine fn_d X.F_law_alike (N := [("_law_found" : Str), ("_law_due" : Str), ("_law_k" : Str)]) (c := c_law_alike a (g_law_alike a n)) (k := 1 + n) (by conv => lhs; whnf) (by conv => lhs; whnf) ⟨rfl, rfl, rfl, nd_law_alike, rfl, by decide +kernel, by decide +kernel⟩ ?_
    intro cdv A outer s H E I0 B0 hr
    exact (s_cons (s_if (t_val (e_callB (callR_or call_isi call_isiT) (k_isi rfl) rfl X.z_isinstance bt_isinstance (a_cons (e_var 1) (a_cons (e_ty rfl X.z_dict bt_dict) a_nil)))) (s_one s_never) s_nil) (s_cons (s_if (t_val (e_callB (callR_or call_isi call_isiT) (k_isi rfl) rfl X.z_isinstance bt_isinstance (a_cons (e_var 1) (a_cons (e_tup (a_cons (e_ty rfl X.z_tuple bt_tuple) (a_cons (e_ty rfl X.z_list bt_list) a_nil))) a_nil)))) (s_cons (s_if (t_w (w_or (CL.t_not (t_val (e_callB (callR_or call_isi call_isiT) (k_isi rfl) rfl X.z_isinstance bt_isinstance (a_cons (e_var 0) (a_cons (e_tup (a_cons (e_ty rfl X.z_tuple bt_tuple) (a_cons (e_ty rfl X.z_list bt_list) a_nil))) a_nil))))) (w_or1 (t_cmp (op_neD hr.units) k_ne (e_callB (callR_or call_isi call_isiT) (k_isi rfl) rfl X.z_isinstance bt_isinstance (a_cons (e_var 0) (a_cons (e_ty rfl X.z_list bt_list) a_nil))) (e_callB (callR_or call_isi call_isiT) (k_isi rfl) rfl X.z_isinstance bt_isinstance (a_cons (e_var 1) (a_cons (e_ty rfl X.z_list bt_list) a_nil))) rfl)))) (s_one (s_ret e_bl)) s_nil) (s_cons (s_if (t_cmp (op_neD hr.units) k_ne (e_callB call_len (k_len rfl) rfl X.z_len bt_len (a_cons (e_var 0) a_nil)) (e_callB call_len (k_len rfl) rfl X.z_len bt_len (a_cons (e_var 1) a_nil)) rfl) (s_one (s_ret e_bl)) s_nil) (s_one (s_ret (e_cmp (op_eqD hr.units) k_eq (e_lc rfl nd_law_alike (own := [(("_law_k" : Str), 2)]) (by conv => lhs; whnf) (by conv => lhs; whnf) (by decide +kernel) (i_range1 rfl X.z_range (e_callB call_len (k_len rfl) rfl X.z_len bt_len (a_cons (e_var 1) a_nil))) (fun _ _ _ _ _ => (gw_name (i := 2) nd_law_alike rfl (by first | exact Or.inl rfl | exact Or.inr rfl) (by decide))) (fun _ _ _ _ _ => (ts_one (CL.t_not (t_val (e_call hrec (hr.mono (by omega)) rfl X.m_law_alike X.F_law_alike.kp X.b_law_alike takes0 (a_cons (e_ix (e_var 0) (e_var 2)) (a_cons (e_ix (e_var 1) (e_var 2)) a_nil)) (an1 (an1 an0))))))) (fun _ _ _ _ _ => (e_var 2))) (e_lst a_nil) rfl))))) s_nil) (s_cons (s_if (t_w (w_or (t_cmp op_isN k_isN (e_var 1) e_non rfl) (w_or1 (t_val (e_callB (callR_or call_isi call_isiT) (k_isi rfl) rfl X.z_isinstance bt_isinstance (a_cons (e_var 1) (a_cons (e_ty rfl X.z_str bt_str) a_nil))))))) (s_one (s_ret (e_and (e_cmp (op_eqD hr.units) k_eq (e_var 0) (e_var 1) rfl) (e_one (e_cmp (op_eqD hr.units) k_eq (e_callB (callR_or call_isi call_isiT) (k_isi rfl) rfl X.z_isinstance bt_isinstance (a_cons (e_var 0) (a_cons (e_ty rfl X.z_str bt_str) a_nil))) (e_callB (callR_or call_isi call_isiT) (k_isi rfl) rfl X.z_isinstance bt_isinstance (a_cons (e_var 1) (a_cons (e_ty rfl X.z_str bt_str) a_nil))) rfl))))) s_nil) (s_one (s_ret (e_and (e_callB (callR_or call_isi call_isiT) (k_isi rfl) rfl X.z_isinstance bt_isinstance (a_cons (e_var 0) (a_cons (e_ty rfl X.z_int bt_int) a_nil))) (e_and (e_cmp (op_eqD hr.units) k_eq (e_callB (callR_or call_isi call_isiT) (k_isi rfl) rfl X.z_isinstance bt_isinstance (a_cons (e_var 0) (a_cons (e_ty rfl X.z_bool bt_bool) a_nil))) (e_callB (callR_or call_isi call_isiT) (k_isi rfl) rfl X.z_isinstance bt_isinstance (a_cons (e_var 1) (a_cons (e_ty rfl X.z_bool bt_bool) a_nil))) rfl) (e_one (e_cmp (op_eqD hr.units) k_eq (e_var 0) (e_var 1) rfl)))))))))
/-! ### Town.bridges -/
abbrev st_Town_bridges : Stmt := inClass (top 19) 7
theorem nd_Town_bridges : ([("self" : Str)] : List Str).Nodup := by decide +kernel
def c_Town_bridges (a : Ad) : CS := (sRet (cFld a.C_Town ("links" : Str) (cVar 0)))
def g_Town_bridges (a : Ad) : G := run 1 (c_Town_bridges a)
theorem ok_Town_bridges {P : Program} {w : World} {mg : Str → Option Value} {base : Heap} {L : Tl} {a : Ad} (X : Fx mg a) : FnC P w TheK.K mg base L 1 a.f_Town_bridges a.d_Town_bridges [("self" : Str)] (g_Town_bridges a) := by
  refine fn_d X.F_Town_bridges (N := [("self" : Str)]) (c := c_Town_bridges a) (k := 0) (by conv => lhs; whnf) (by conv => lhs; whnf) ⟨rfl, rfl, rfl, nd_Town_bridges, rfl, by decide +kernel, by decide +kernel⟩ ?_
  intro cdv A outer s H E I0 B0 hr
  exact (s_one (s_ret (e_fld ("links" : Str) (e_var 0) X.c_Town X.n_Town_links)))
/-! ### Town.place_count -/
abbrev st_Town_place_count : Stmt := inClass (top 19) 6
theorem nd_Town_place_count : ([("self" : Str)] : List Str).Nodup := by decide +kernel
def c_Town_place_count (a : Ad) : CS := (sRet (cFld a.C_Town ("size" : Str) (cVar 0)))
def g_Town_place_count (a : Ad) : G := run 1 (c_Town_place_count a)
theorem ok_Town_place_count {P : Program} {w : World} {mg : Str → Option Value} {base : Heap} {L : Tl} {a : Ad} (X : Fx mg a) : FnC P w TheK.K mg base L 1 a.f_Town_place_count a.d_Town_place_count [("self" : Str)] (g_Town_place_count a) := by
  refine fn_d X.F_Town_place_count (N := [("self" : Str)]) (c := c_Town_place_count a) (k := 0) (by conv => lhs; whnf) (by conv => lhs; whnf) ⟨rfl, rfl, rfl, nd_Town_place_count, rfl, by decide +kernel, by decide +kernel⟩ ?_
  intro cdv A outer s H E I0 B0 hr
  exact (s_one (s_ret (e_fld ("size" : Str) (e_var 0) X.c_Town X.n_Town_size)))
/-! ### Town.lives -/
abbrev st_Town_lives : Stmt := inClass (top 19) 8
theorem nd_Town_lives : ([("self" : Str), ("one" : Str), ("other" : Str), ("length" : Str), ("life" : Str)] : List Str).Nodup := by decide +kernel
def c_Town_lives (a : Ad) : CS := (sRet (cApp bTuple (aCons (cLc (CL.iSeq (cFld a.C_Town ("links" : Str) (cVar 0))) (CL.gTup 4 (gCons (gN 1) (gCons (gN 2) (gCons (gN 3) (gCons (gN 4) gNil))))) tYesC (cVar 4) [1, 2, 3, 4]) aNil)))
def g_Town_lives (a : Ad) : G := run 5 (c_Town_lives a)
theorem ok_Town_lives {P : Program} {w : World} {mg : Str → Option Value} {base : Heap} {L : Tl} {a : Ad} (X : Fx mg a) : FnC P w TheK.K mg base L 1 a.f_Town_lives a.d_Town_lives [("self" : Str)] (g_Town_lives a) := by
  refine fn_d X.F_Town_lives (N := [("self" : Str), ("one" : Str), ("other" : Str), ("length" : Str), ("life" : Str)]) (c := c_Town_lives a) (k := 0) (by conv => lhs; whnf) (by conv => lhs; whnf) ⟨rfl, rfl, rfl, nd_Town_lives, rfl, by decide +kernel, by decide +kernel⟩ ?_
  intro cdv A outer s H E I0 B0 hr
  exact (s_one (s_ret (e_callTy call_tuple_of (k_tuple rfl) rfl X.z_tuple bt_tuple (a_cons (e_lc rfl nd_Town_lives (own := [(("one" : Str), 1), (("other" : Str), 2), (("length" : Str), 3), (("life" : Str), 4)]) (by conv => lhs; whnf) (by conv => lhs; whnf) (by decide +kernel) (i_seq (e_fld ("links" : Str) (e_var 0) X.c_Town X.n_Town_links)) (fun _ _ _ _ _ => (gw_tup rfl (gw_cons (gw_name (i := 1) nd_Town_lives rfl (by first | exact Or.inl rfl | exact Or.inr rfl) (by decide)) (gw_cons (gw_name (i := 2) nd_Town_lives rfl (by first | exact Or.inl rfl | exact Or.inr rfl) (by decide)) (gw_cons (gw_name (i := 3) nd_Town_lives rfl (by first | exact Or.inl rfl | exact Or.inr rfl) (by decide)) (gw_cons (gw_name (i := 4) nd_Town_lives rfl (by first | exact Or.inl rfl | exact Or.inr rfl) (by decide)) gw_nil)))))) (fun _ _ _ _ _ => ts_nil) (fun _ _ _ _ _ => (e_var 4))) a_nil))))
/-! ### law -/
abbrev st_law : Stmt := top 31
theorem nd_law : ([("_law_script" : Str), ("_law_h" : Str), ("_law_turn" : Str), ("_law_count" : Str), ("_law_links_here" : Str), ("_law_bad" : Str), ("_law_results" : Str), ("_law_error_here" : Str), ("_law_link" : Str), ("_law_town" : Str)] : List Str).Nodup := by decide +kernel
def c_law (a : Ad) : CS := (sSeq (sSet 1 (cCall (g_law_mix a) (aCons (cVar 0) (aCons (cK (.int 1)) aNil)))) (sSeq (sFor (CL.iRange1 (cK (.int 6))) (gN 2) (sSeq (sSet 3 (c2 oAdd (cK (.int 1)) (cCall (g_law_next a) (aCons (cVar 1) (aCons (cK (.int 12)) aNil))))) (sSeq (sSet 4 (cCall (g_law_links a) (aCons (cVar 1) (aCons (cVar 3) (aCons (cK (.int 24)) (aCons (cK (.bl true)) aNil)))))) (sSeq (sIf (tB (c2 (oEq false) (cCall (g_law_next a) (aCons (cVar 1) (aCons (cK (.int 2)) aNil))) (cK (.int 0)))) (sSet 4 (cCall (g_law_spoilt a) (aCons (cVar 1) (aCons (cVar 3) (aCons (cVar 4) aNil))))) sNil) (sSeq (sIf (tB (c2 (oEq false) (cCall (g_law_next a) (aCons (cVar 1) (aCons (cK (.int 8)) aNil))) (cK (.int 0)))) (sAsg (c2 oIx (cLst (aCons (cTup (aCons (cK (.int 0)) (aCons (cTup aNil) aNil))) (aCons (cTup (aCons (cK (.int 13)) (aCons (cTup aNil) aNil))) (aCons (cTup (aCons (cK (.int 2)) (aCons (c2 oMul (cTup (aCons (cTup (aCons (cK (.int 0)) (aCons (cK (.int 1)) (aCons (cK (.int 1)) (aCons (cK (.int 0)) aNil))))) aNil)) (cK (.int 25))) aNil))) (aCons (cTup (aCons (c1 oNeg (cK (.int 1))) (aCons (cTup aNil) aNil))) aNil))))) (cCall (g_law_next a) (aCons (cVar 1) (aCons (cK (.int 4)) aNil)))) (CL.gTup 2 (gCons (gN 3) (gCons (gN 4) gNil)))) sNil) (sSeq (sAsg (cTup (aCons (cCall (g_law_first_bad a) (aCons (cVar 3) (aCons (cVar 4) aNil))) (aCons (cToP (cLst aNil)) aNil))) (CL.gTup 2 (gCons (gN 5) (gCons (gN 6) gNil)))) (sSeq (sSet 7 (cLam 5 (fun ac => cb_law_error a ac) (cAppendP (cVar 6) (cMake a.C_Town (g_Town__init a) (aCons (cVar 3) (aCons (cVar 4) aNil)))))) (sSeq (sIf (tB (c2 (oEq true) (cVar 7) (cIf (tB (c2 xIsN (cVar 5) (cK .non))) (cTup (aCons (cK (.str ("none" : Str))) aNil)) (c2 oAdd (cTup (aCons (cK (.str ("town" : Str))) aNil)) (cVar 5))))) (sRet (cK (.bl false))) sNil) (sSeq (sFor (CL.iSeq (cCut (cVar 4) oNone (oSome (cK (.int 5))))) (gN 8) (sIf (tNot (tB (cCall (g_law_alike a 5) (aCons (cStat a.C_Town (g_Town_is_bridge a) (cK (.ref a.C_Town)) (aCons (cApp bMax2 (aCons (cK (.int 1)) (aCons (cVar 3) aNil))) (aCons (cVar 8) aNil))) (aCons (cCall (g_law_is_link a) (aCons (cApp bMax2 (aCons (cK (.int 1)) (aCons (cVar 3) aNil))) (aCons (cVar 8) aNil))) aNil))))) (sRet (cK (.bl false))) sNil)) (sIf (tB (c2 xIsN (cVar 5) (cK .non))) (sSeq (sSet 9 (c2 oIx (cVar 6) (cK (.int 0)))) (sSeq (sIf (tNot (tB (cCall (g_law_alike a 5) (aCons (cLst (aCons (cProp a.C_Town (gNox (g_Town_place_count a)) (cVar 9)) (aCons (cProp a.C_Town (gNox (g_Town_bridges a)) (cVar 9)) aNil))) (aCons (cLst (aCons (cVar 3) (aCons (cVar 4) aNil))) aNil))))) (sRet (cK (.bl false))) sNil) (sIf (tNot (tB (cCall (g_law_alike a 5) (aCons (cProp a.C_Town (gNox (g_Town_lives a)) (cVar 9)) (aCons (cApp bTuple (aCons (cLc (CL.iSeq (cVar 4)) (gN 8) tYesC (c2 oIx (cVar 8) (cK (.int 3))) [8]) aNil)) aNil))))) (sRet (cK (.bl false))) sNil))) sNil)))))))))) (sRet (c2 (oEq false) (cTup (aCons (cVal a.C_Town (.int 12) (cK (.ref a.C_Town))) (aCons (cVal a.C_Town (.int 24) (cK (.ref a.C_Town))) (aCons (cVal a.C_Town (.int 1000000000000000000) (cK (.ref a.C_Town))) aNil)))) (cTup (aCons (cK (.int 12)) (aCons (cK (.int 24)) (aCons (c2 oPow (cK (.int 10)) (cK (.int 18))) aNil))))))))
def g_law (a : Ad) : G := run 10 (c_law a)
theorem ok_law {P : Program} {w : World} {mg : Str → Option Value} {base : Heap} {L : Tl} {a : Ad} (X : Fx mg a) (TB : LamX.TabB base mg a.lc a.lP) (hcd : a.d_law.code = .ref a.lc) : FnC P w TheK.K mg base (tabsOf [(a.lP, lamQ)], []) 8 a.f_law a.d_law [("_law_script" : Str)] (g_law a) := by
  refine fn_dd X.F_law (N := [("_law_script" : Str), ("_law_h" : Str), ("_law_turn" : Str), ("_law_count" : Str), ("_law_links_here" : Str), ("_law_bad" : Str), ("_law_results" : Str), ("_law_error_here" : Str), ("_law_link" : Str), ("_law_town" : Str)]) (c := c_law a) (k := 7) (by conv => lhs; whnf) (by conv => lhs; whnf) ⟨rfl, rfl, rfl, nd_law, rfl, by decide +kernel, by decide +kernel⟩ hcd ?_
  intro A outer s H E I0 B0 hr
  exact (s_cons (s_set (i := 1) nd_law rfl (by first | exact Or.inl rfl | exact Or.inr rfl) (e_call (ok_law_mix X) (hr.mono (by decide)) rfl X.m_law_mix X.F_law_mix.kp X.b_law_mix (takes_of rfl rfl rfl rfl) (a_cons (e_var 0) (a_cons e_int a_nil)) (an1 (an1 an0)))) (s_cons (s_for (passes_of rfl) rfl (i_range1 rfl X.z_range e_int) (g_name (i := 2) nd_law rfl (by first | exact Or.inl rfl | exact Or.inr rfl)) (s_cons (s_set (i := 3) nd_law rfl (by first | exact Or.inl rfl | exact Or.inr rfl) (e_op op_addA k_add e_int (e_call (ok_law_next X) (hr.mono (by decide)) rfl X.m_law_next X.F_law_next.kp X.b_law_next (takes_of rfl rfl rfl rfl) (a_cons (e_var 1) (a_cons e_int a_nil)) (an1 (an1 an0))))) (s_cons (s_set (i := 4) nd_law rfl (by first | exact Or.inl rfl | exact Or.inr rfl) (e_call (ok_law_links X) (hr.mono (by decide)) rfl X.m_law_links X.F_law_links.kp X.b_law_links (takes_of rfl rfl rfl rfl) (a_cons (e_var 1) (a_cons (e_var 3) (a_cons e_int (a_cons e_bl a_nil)))) (an1 (an1 (an1 (an1 an0)))))) (s_cons (s_if (t_cmp (op_eqD hr.units) k_eq (e_call (ok_law_next X) (hr.mono (by decide)) rfl X.m_law_next X.F_law_next.kp X.b_law_next (takes_of rfl rfl rfl rfl) (a_cons (e_var 1) (a_cons e_int a_nil)) (an1 (an1 an0))) e_int rfl) (s_one (s_set (i := 4) nd_law rfl (by first | exact Or.inl rfl | exact Or.inr rfl) (e_call (ok_law_spoilt X) (hr.mono (by decide)) rfl X.m_law_spoilt X.F_law_spoilt.kp X.b_law_spoilt (takes_of rfl rfl rfl rfl) (a_cons (e_var 1) (a_cons (e_var 3) (a_cons (e_var 4) a_nil))) (an1 (an1 (an1 an0)))))) s_nil) (s_cons (s_if (t_cmp (op_eqD hr.units) k_eq (e_call (ok_law_next X) (hr.mono (by decide)) rfl X.m_law_next X.F_law_next.kp X.b_law_next (takes_of rfl rfl rfl rfl) (a_cons (e_var 1) (a_cons e_int a_nil)) (an1 (an1 an0))) e_int rfl) (s_one (s_asg (e_ix (e_lst (a_cons (e_tup (a_cons e_int (a_cons (e_tup a_nil) a_nil))) (a_cons (e_tup (a_cons e_int (a_cons (e_tup a_nil) a_nil))) (a_cons (e_tup (a_cons e_int (a_cons (e_op op_mulA k_mul (e_tup (a_cons (e_tup (a_cons e_int (a_cons e_int (a_cons e_int (a_cons e_int a_nil))))) a_nil)) e_int) a_nil))) (a_cons (e_tup (a_cons (e_un un_neg k_neg e_int) (a_cons (e_tup a_nil) a_nil))) a_nil))))) (e_call (ok_law_next X) (hr.mono (by decide)) rfl X.m_law_next X.F_law_next.kp X.b_law_next (takes_of rfl rfl rfl rfl) (a_cons (e_var 1) (a_cons e_int a_nil)) (an1 (an1 an0)))) (g_tup rfl (g_cons (g_name (i := 3) nd_law rfl (by first | exact Or.inl rfl | exact Or.inr rfl)) (g_cons (g_name (i := 4) nd_law rfl (by first | exact Or.inl rfl | exact Or.inr rfl)) g_nil))))) s_nil) (s_cons (s_asg (e_tup (a_cons (e_call (ok_law_first_bad X) (hr.mono (by decide)) rfl X.m_law_first_bad X.F_law_first_bad.kp X.b_law_first_bad (takes_of rfl rfl rfl rfl) (a_cons (e_var 3) (a_cons (e_var 4) a_nil)) (an1 (an1 an0))) (a_cons (e_toP (f_lst a_nil)) a_nil))) (g_tup rfl (g_cons (g_name (i := 5) nd_law rfl (by first | exact Or.inl rfl | exact Or.inr rfl)) (g_cons (g_name (i := 6) nd_law rfl (by first | exact Or.inl rfl | exact Or.inr rfl)) g_nil)))) (s_cons (s_set (i := 7) nd_law rfl (by first | exact Or.inl rfl | exact Or.inr rfl) (e_lam (k := 4) X.F_law_error sc_law_error rfl (Or.inl rfl) X.b_law_error rfl X.m_law_error (fun cdg s H I0 B0 L FF ac hr hac => body_law_error X hr hac) TB rfl (List.mem_singleton.mpr rfl) (fun p hp _ => by have e := List.mem_singleton.mp hp; subst e; rfl) (hr.mono (by decide)) (lamS_d (by conv => lhs; whnf) (by decide +kernel)) rfl (fun _ _ _ _ _ => rfl) (fun A outer s H E f c' hr => (e_appendP (e_var 6) (e_make X.k_Town (ok_Town__init X) (hr.mono (by decide)) rfl X.m_Town X.b_Town__init (passes_call (takes_of rfl rfl rfl rfl) fun _ _ _ _ h => h) (a_cons (e_var 3) (a_cons (e_var 4) a_nil)) (an1 (an1 an0)) rfl))))) (s_cons (s_if (t_cmp (op_neD hr.units) k_ne (e_var 7) (e_if (t_cmp op_isN k_isN (e_var 5) e_non rfl) (e_tup (a_cons e_str a_nil)) (e_op op_addA k_add (e_tup (a_cons e_str a_nil)) (e_var 5))) rfl) (s_one (s_ret e_bl)) s_nil) (s_cons (s_for (passes_of rfl) rfl (i_seq (e_cut (e_var 4) o_none (o_some e_int))) (g_name (i := 8) nd_law rfl (by first | exact Or.inl rfl | exact Or.inr rfl)) (s_one (s_if (CL.t_not (t_val (e_call (ok_law_alike 5 X) (hr.mono (by decide)) rfl X.m_law_alike X.F_law_alike.kp X.b_law_alike (takes_of rfl rfl rfl rfl) (a_cons (e_stat (e_glob rfl X.m_Town) X.r_Town X.s_Town_is_bridge (ok_Town_is_bridge X) (hr.mono (by decide)) X.b_Town_is_bridge (takes_of rfl rfl rfl rfl) (a_cons (e_callB (call_max2 rfl) (k_max2) rfl X.z_max bt_max (a_cons e_int (a_cons (e_var 3) a_nil))) (a_cons (e_var 8) a_nil)) (an1 (an1 an0))) (a_cons (e_call (ok_law_is_link X) (hr.mono (by decide)) rfl X.m_law_is_link X.F_law_is_link.kp X.b_law_is_link (takes_of rfl rfl rfl rfl) (a_cons (e_callB (call_max2 rfl) (k_max2) rfl X.z_max bt_max (a_cons e_int (a_cons (e_var 3) a_nil))) (a_cons (e_var 8) a_nil)) (an1 (an1 an0))) a_nil)) (an1 (an1 an0))))) (s_one (s_ret e_bl)) s_nil))) (s_one (s_if (t_cmp op_isN k_isN (e_var 5) e_non rfl) (s_cons (s_set (i := 9) nd_law rfl (by first | exact Or.inl rfl | exact Or.inr rfl) (e_ix (e_var 6) e_int)) (s_cons (s_if (CL.t_not (t_val (e_call (ok_law_alike 5 X) (hr.mono (by decide)) rfl X.m_law_alike X.F_law_alike.kp X.b_law_alike (takes_of rfl rfl rfl rfl) (a_cons (e_lst (a_cons (e_prop (e_var 9) X.c_Town X.p_Town_place_count (ok_Town_place_count X) (hr.mono (by decide)) X.b_Town_place_count rfl) (a_cons (e_prop (e_var 9) X.c_Town X.p_Town_bridges (ok_Town_bridges X) (hr.mono (by decide)) X.b_Town_bridges rfl) a_nil))) (a_cons (e_lst (a_cons (e_var 3) (a_cons (e_var 4) a_nil))) a_nil)) (an1 (an1 an0))))) (s_one (s_ret e_bl)) s_nil) (s_one (s_if (CL.t_not (t_val (e_call (ok_law_alike 5 X) (hr.mono (by decide)) rfl X.m_law_alike X.F_law_alike.kp X.b_law_alike (takes_of rfl rfl rfl rfl) (a_cons (e_prop (e_var 9) X.c_Town X.p_Town_lives (ok_Town_lives X) (hr.mono (by decide)) X.b_Town_lives rfl) (a_cons (e_callTy call_tuple_of (k_tuple rfl) rfl X.z_tuple bt_tuple (a_cons (e_lc rfl nd_law (own := [(("_law_link" : Str), 8)]) (by conv => lhs; whnf) (by conv => lhs; whnf) (by decide +kernel) (i_seq (e_var 4)) (fun _ _ _ _ _ => (gw_name (i := 8) nd_law rfl (by first | exact Or.inl rfl | exact Or.inr rfl) (by decide))) (fun _ _ _ _ _ => ts_nil) (fun _ _ _ _ _ => (e_ix (e_var 8) e_int))) a_nil)) a_nil)) (an1 (an1 an0))))) (s_one (s_ret e_bl)) s_nil)))) s_nil))))))))))) (s_one (s_ret (e_cmp (op_eqD hr.units) k_eq (e_tup (a_cons (e_cval (e_glob rfl X.m_Town) X.r_Town X.v_Town_MAX_PLACES fun _ _ => rfl) (a_cons (e_cval (e_glob rfl X.m_Town) X.r_Town X.v_Town_MAX_BRIDGES fun _ _ => rfl) (a_cons (e_cval (e_glob rfl X.m_Town) X.r_Town X.v_Town_MAX_LIFE fun _ _ => rfl) a_nil)))) (e_tup (a_cons e_int (a_cons e_int (a_cons (e_op op_pow k_pow e_int e_int) a_nil)))) rfl)))))
end Law
set_option Elab.async false
set_option linter.all false
set_option maxRecDepth 100000
set_option maxHeartbeats 4000000
namespace Law
open PySem PySem.Spec PyProof.Rows L2 CL
variable [TheK]
theorem canInt (i : Int) : SeqAt.shaped (.int i) = true := by rfl
theorem canBool (b : Bool) : SeqAt.shaped (.bool b) = true := by rfl
@[simp] theorem oEq_int (neg : Bool) (i j : Int) (S : Store) : oEq neg (.int i) (.int j) S = .ok (.bl (if neg then !decide (i = j) else decide (i = j))) S := by
  simp [oEq, look, toPy, canInt, PyData.eqv]
  cases neg <;> simp [BEq.beq]
@[simp] theorem oEq_bl (neg : Bool) (i j : Bool) (S : Store) : oEq neg (.bl i) (.bl j) S = .ok (.bl (if neg then !(i == j) else i == j)) S := by
  simp [oEq, look, toPy, canBool, PyData.eqv]
@[simp] theorem atI0 {α : Type} (x : α) (xs : List α) : L2.atI (x :: xs) 0 = some x := L2.atI_nat (j := 0) rfl
@[simp] theorem atI1 {α : Type} (x y : α) (xs : List α) : L2.atI (x :: y :: xs) 1 = some y := L2.atI_nat (j := 1) rfl
@[simp] theorem atI2 {α : Type} (x y z : α) (xs : List α) : L2.atI (x :: y :: z :: xs) 2 = some z := L2.atI_nat (j := 2) rfl
@[simp] theorem atI3 {α : Type} (x y z w : α) (xs : List α) : L2.atI (x :: y :: z :: w :: xs) 3 = some w := L2.atI_nat (j := 3) rfl
@[simp] theorem ixN30 : L2.ixN 3 0 = some 0 := by rfl
@[simp] theorem ixN32 : L2.ixN 3 2 = some 2 := by rfl
theorem ixNat {n j : Nat} (hj : j < n) : L2.ixN n (j : Int) = some j := by
  unfold L2.ixN
  rw [if_pos (by omega), if_pos (by omega)]; simp
theorem lg7 : Nat.log2 7 = 2 := by decide +kernel
theorem pow18 : (10 : Int) ^ 18 = 1000000000000000000 := by decide
/-- what the calls of _law_next do -/
theorem next_ok (a : Ad) (m t : Int) (cs : List Int) (rest : Store) (lim : Int) (hl : cs.length ≤ 63) (h0 : 0 < lim) (h1 : lim.natAbs.log2 < 9000) :
    ∃ (r m' t' : Int) (cs' : List Int), g_law_next a [.ptr 1, .int lim] (.lst (cs.map D.int) :: .lst [.int m, .ptr 0, .int t] :: rest) = .ok (.int r) (.lst (cs'.map D.int) :: .lst [.int m', .ptr 0, .int t'] :: rest) ∧ 0 ≤ r ∧ r < lim ∧ cs'.length = cs.length := by
  have hl2 : cs.length + 1 ≤ 16777216 := by omega
  have hl3 : cs.length ≤ 16777215 := by omega
  -- the cell
  have cell : ∃ (c : Int) (k : Nat), t % (if 1 < (cs.length : Int) then (cs.length : Int) else 1) = (k : Int) ∧ L2.atI (cs.map D.int ++ [D.int 0]) (k : Int) = some (.int c) ∧ (k < cs.length ∨ c = 0) ∧ (0 < cs.length → t % (cs.length : Int) = (k : Int)) := by
    by_cases hp : 0 < cs.length
    · have e : (if 1 < (cs.length : Int) then (cs.length : Int) else 1) = (cs.length : Int) := by split <;> omega
      have e1 : 0 ≤ t % (cs.length : Int) := Int.emod_nonneg _ (by omega)
      have e2 : t % (cs.length : Int) < cs.length := Int.emod_lt_of_pos _ (by omega)
      have hk : (t % (cs.length : Int)).toNat < cs.length := by omega
      refine ⟨cs[(t % (cs.length : Int)).toNat], (t % (cs.length : Int)).toNat, by rw [e]; omega, L2.atI_nat ?_, .inl hk, fun _ => by omega⟩
      rw [List.getElem?_append_left (by simpa using hk)]
      simp [hk]
    · have e : cs = [] := by
        cases cs with
        | nil => rfl
        | cons _ _ => simp at hp
      subst e
      exact ⟨0, 0, by simp, rfl, .inr rfl, fun h => absurd h (by simp)⟩
  obtain ⟨c, k, e1, e2, e3, e4⟩ := cell
  have mx : (1 : Int) ≤ (if 1 < (cs.length : Int) then (cs.length : Int) else 1) := by split <;> omega
  have mx' : (0 : Int) < (if 1 < (cs.length : Int) then (cs.length : Int) else 1) := by omega
  by_cases hb : 1000000000000000000 ≤ c
  · have hk : k < cs.length := e3.resolve_right (by omega)
    have hp : (0 : Int) < cs.length := by omega
    have e5 := e4 (by omega)
    have hp' : 0 < cs.length := by omega
    have e6 : L2.ixN cs.length (k : Int) = some k := ixNat hk
    refine ⟨c % lim, m, t, cs.set k (c / lim), ?_, Int.emod_nonneg _ (by omega), Int.emod_lt_of_pos _ h0, by simp⟩
    simp [g_law_next, CL.run, c_law_next, sSeq, sSet, c2, cVar, slotD, cK, oDo, oIx, itemsOf, oAdd, cLst, aCons, aNil, cApp, bInt, bMax2, bLen, oMod, CL.tB, sIf, oGe, oCmp, oPow, sItem, sRet, sNil, oDiv, hl2, hl3, e1, e2, mx', hb, pow18, h0, h1, hp, hp', e5, e6]
  · refine ⟨(m * 48271 + c * 69621 + 11) % 2147483647 / 7 % lim, (m * 48271 + c * 69621 + 11) % 2147483647, t + 1, cs, ?_, Int.emod_nonneg _ (by omega), Int.emod_lt_of_pos _ h0, rfl⟩
    simp [g_law_next, CL.run, c_law_next, sSeq, sSet, c2, cVar, slotD, cK, oDo, oIx, itemsOf, oAdd, cLst, aCons, aNil, cApp, bInt, bMax2, bLen, oMod, CL.tB, sIf, oGe, oCmp, oPow, sItem, sRet, sNil, oDiv, oMul, smallI, hl2, hl3, e1, e2, mx', hb, pow18, h0, h1, lg7]
end Law
set_option Elab.async false
set_option linter.all false
set_option maxRecDepth 100000
set_option maxHeartbeats 4000000
namespace Law
open PySem CL
variable [TheK]
@[simp] theorem iteA (p : Prop) [Decidable p] (b : Bool) (S : Store) : (if p then R.ok (D.bl b) S else R.ok (D.bl false) S) = R.ok (D.bl (decide p && b)) S := by by_cases h : p <;> simp [h]
@[simp] theorem iteB (p : Prop) [Decidable p] (b : Bool) (S : Store) : (if p then R.ok true S else R.ok b S) = R.ok (decide p || b) S := by by_cases h : p <;> simp [h]
@[simp] theorem iteC (p : Prop) [Decidable p] (b : Bool) (S : Store) : (if p then R.ok b S else R.ok false S) = R.ok (decide p && b) S := by by_cases h : p <;> simp [h]
@[simp] theorem iteD (p : Prop) [Decidable p] (b : Bool) (S : Store) : (if p then O.rt (D.bl false) S else O.rt (D.bl b) S) = O.rt (D.bl (!decide p && b)) S := by by_cases h : p <;> simp [h]
structure Quad where
  q1 : Int
  q2 : Int
  q3 : Int
  q4 : Int
def qd (q : Quad) : D := .tup [.int q.q1, .int q.q2, .int q.q3, .int q.q4]
def isL (c : Int) (q : Quad) : Bool := decide (0 ≤ q.q1) && decide (q.q1 < c) && (decide (0 ≤ q.q2) && decide (q.q2 < c)) && !decide (q.q1 = q.q2) && (decide (1 ≤ q.q3) && decide (q.q3 ≤ 99) && (decide (0 ≤ q.q4) && decide (q.q4 ≤ 1000000000000000000)))
theorem isL_iff (c q1 q2 q3 q4 : Int) : isL c ⟨q1, q2, q3, q4⟩ = true ↔ ((0 ≤ q1 ∧ q1 < c) ∧ (0 ≤ q2 ∧ q2 < c) ∧ q1 ≠ q2) ∧ (1 ≤ q3 ∧ q3 ≤ 99) ∧ 0 ≤ q4 ∧ q4 ≤ 1000000000000000000 := by
  unfold isL
  simp
  omega
theorem is_link_ok (a : Ad) (c : Int) (q : Quad) (S : Store) : g_law_is_link a [.int c, qd q] S = .ok (.bl (isL c q)) S := by
  obtain ⟨q1, q2, q3, q4⟩ := q
  simp [g_law_is_link, CL.run, c_law_is_link, sSeq, c2, cVar, slotD, cK, oDo, oIx, itemsOf, aCons, aNil, cApp, bLen, CL.tB, sIf, oLe, oLt, oCmp, oPow, sRet, sNil, qd, pow18, CL.tOr, CL.tNot, cChain, cAnd]
  by_cases hB : (q1 < 0 ∨ c ≤ q1) ∨ (q2 < 0 ∨ c ≤ q2) ∨ q1 = q2
  · simp [hB]
    rw [Bool.eq_false_iff, Ne, isL_iff]
    omega
  · simp [hB, cVar, slotD]
    rw [Bool.eq_iff_iff, isL_iff]
    simp
    omega
theorem is_bridge_ok (a : Ad) (c : Int) (q : Quad) (S : Store) : g_Town_is_bridge a [.int c, qd q] S = .ok (.bl (isL c q)) S := by
  obtain ⟨q1, q2, q3, q4⟩ := q
  simp [g_Town_is_bridge, CL.run, c_Town_is_bridge, sSeq, c2, cVar, slotD, cK, oDo, oIx, itemsOf, aCons, aNil, cApp, bLen, CL.tB, sIf, oLe, oLt, oCmp, oPow, sRet, sNil, qd, pow18, CL.tOr, CL.tNot, cChain, cAnd, sAsg, CL.gTup, gCons, gN, gNil, cVal]
  by_cases hB : (q1 < 0 ∨ c ≤ q1) ∨ (q2 < 0 ∨ c ≤ q2) ∨ q1 = q2
  · simp [hB]
    rw [Bool.eq_false_iff, Ne, isL_iff]
    omega
  · simp [hB, cVar, slotD]
    rw [Bool.eq_iff_iff, isL_iff]
    simp
    omega
end Law
set_option Elab.async false
set_option linter.all false
set_option maxRecDepth 100000
set_option maxHeartbeats 4000000
namespace Law
open PySem CL
variable [TheK]
def badFrom (c : Int) : Nat → List Quad → Option Nat
  | _, [] => none
  | k, q :: qs => if k = 24 ∨ isL c q = false then some k else badFrom c (k + 1) qs
def tq (qs : List Quad) : D := .tup (qs.map qd)
theorem fb_loop (a : Ad) (c : Int) (S : Store) (qs : List Quad) : ∀ (suf pre : List Quad) (v : SV), qs = pre ++ suf →
    ∃ v', loop (gN 2) (sIf (CL.tOr (CL.tB (c2 (oEq false) (cVar 2) (cK (.int 24)))) (CL.tNot (CL.tB (cCall (g_law_is_link a) (aCons (cVar 0) (aCons (c2 oIx (cVar 1) (cVar 2)) aNil)))))) (sRet (cTup (aCons (cK (.str ("bridges" : Str))) (aCons (cVar 2) aNil)))) sNil)
      ((List.range' pre.length suf.length).map fun (k : Nat) => D.int (k : Int)) [.d (.int c), .d (tq qs), v] S = match badFrom c pre.length suf with
        | some k => .rt (.tup [.str ("bridges" : Str), .int k]) S
        | none => .nx [.d (.int c), .d (tq qs), v'] S
  | [], pre, v, h => ⟨v, by simp [loop, badFrom]⟩
  | q :: suf, pre, v, h => by
    obtain ⟨v', ih⟩ := fb_loop a c S qs suf (pre ++ [q]) (.d (.int (pre.length : Nat))) (by simp [h])
    have e1 : L2.atI (qs.map qd) ((pre.length : Nat) : Int) = some (qd q) := L2.atI_nat (by simp [h])
    refine ⟨v', ?_⟩
    simp only [List.length_cons, List.range'_succ, List.map_cons, loop, badFrom]
    simp only [List.length_append, List.length_cons, List.length_nil, Nat.zero_add] at ih
    simp [gN, sIf, CL.tOr, CL.tB, c2, cVar, slotD, cK, oDo, CL.tNot, cCall, cApp, aCons, aNil, oIx, itemsOf, tq, e1, is_link_ok]
    by_cases h24 : pre.length = 24
    · have h24' : (pre.length : Int) = 24 := by omega
      simp [h24, h24', sRet, cTup, aCons, aNil, cK, cVar, slotD, oDo]
    · have h24' : ¬ (pre.length : Int) = 24 := by omega
      cases hq : isL c q with
      | true =>
        simp [h24, h24', hq, sNil]
        simpa [tq, cCall] using ih
      | false => simp [h24, h24', hq, sRet, cTup, aCons, aNil, cK, cVar, slotD, oDo]
def badOf (c : Int) (qs : List Quad) : Option (Str × Int) := if 1 ≤ c ∧ c ≤ 12 then (badFrom c 0 qs).map fun k => (("bridges" : Str), (k : Int)) else some (("count" : Str), 0)
def badD : Option (Str × Int) → D
  | none => .non
  | some (s, k) => .tup [.str s, .int k]
theorem first_bad_ok (a : Ad) (c : Int) (qs : List Quad) (S : Store) (hl : qs.length ≤ 1000) : g_law_first_bad a [.int c, tq qs] S = .ok (badD (badOf c qs)) S := by
  obtain ⟨v', h⟩ := fb_loop a c S qs qs [] .u rfl
  simp only [List.length_nil] at h
  have hr : (List.range qs.length) = List.range' 0 qs.length := List.range_eq_range'
  have b2 : (qs.length : Int) < 4611686018427387904 := by omega
  have hl' : qs.length ≤ 16777216 := by omega
  simp [g_law_first_bad, CL.run, c_law_first_bad, sSeq, sIf, CL.tNot, CL.tB, cChain, oLe, oCmp, cK, cVar, slotD, oDo]
  unfold badOf
  by_cases hc : 1 ≤ c ∧ c ≤ 12
  · have hc2 : ¬ (c < 1 ∨ 12 < c) := by omega
    have hc3 : ¬ (c ≤ 0 ∨ 12 < c) := by omega
    have e : cApp bLen (aCons (cVar 1) aNil) [.d (.int c), .d (tq qs), .u] S = .ok (.int (qs.length : Nat)) S := by
      simp [cApp, aCons, aNil, cVar, slotD, bLen, itemsOf, tq]
    have e2 := iRange1_nat e hl
    simp [hc, hc2, hc3, sNil, sFor, oDo]
    simp only [tq] at e2
    simp [tq, e2]
    simp [tq] at h
    rw [h]
    cases hb : badFrom c 0 qs with
    | none => simp [sRet, cK, oDo, badD]
    | some k => simp [badD]
  · have hc2 : (c < 1 ∨ 12 < c) := by omega
    have hc3 : (c ≤ 0 ∨ 12 < c) := by omega
    simp [hc, hc2, hc3, sRet, cTup, aCons, aNil, cK, oDo, badD]
/-- what InvalidTown is told -/
def exT (a : Ad) (p : Str) (k : Int) : Exn := ⟨a.C_InvalidTown, [("index" : Str), ("part" : Str)], [.int k, .str p]⟩
theorem in_loop (a : Ad) (c : Int) (S : Store) (o : SV) (qs : List Quad) : ∀ (suf : List Quad) (k : Nat) (v w : SV),
    ∃ v' w', loop (CL.gTup 2 (CL.gCons (gN 3) (CL.gCons (gN 4) CL.gNil))) (sIf (CL.tOr (CL.tB (c2 (oEq false) (cVar 3) (cVal a.C_Town (.int 24) (cK (.ref a.C_Town))))) (CL.tNot (CL.tB (cStat a.C_Town (g_Town_is_bridge a) (cK (.ref a.C_Town)) (aCons (cVar 1) (aCons (cVar 4) aNil)))))) (sRaiseK a.C_InvalidTown [("part" : Str), ("index" : Str)] (aCons (cK (.str ("bridges" : Str))) (aCons (cVar 3) aNil))) sNil)
      (((suf.map qd).zipIdx k).map fun p => D.tup [.int (p.2 : Nat), p.1]) [o, .d (.int c), .d (tq qs), v, w] S = match badFrom c k suf with
        | some j => .exc (exT a ("bridges" : Str) j) [o, .d (.int c), .d (tq qs), v', w'] S
        | none => .nx [o, .d (.int c), .d (tq qs), v', w'] S
  | [], k, v, w => ⟨v, w, by simp [loop, badFrom]⟩
  | q :: suf, k, v, w => by
    obtain ⟨v', w', ih⟩ := in_loop a c S o qs suf (k + 1) (.d (.int (k : Nat))) (.d (qd q))
    simp only [List.map_cons, List.zipIdx_cons, loop, badFrom]
    by_cases h24 : k = 24
    · refine ⟨.d (.int (k : Nat)), .d (qd q), ?_⟩
      have h24' : (k : Int) = 24 := by omega
      simp [gN, CL.gTup, CL.gCons, CL.gNil, sIf, CL.tOr, CL.tB, c2, cVar, slotD, cK, oDo, cVal, h24, sRaiseK, aCons, aNil, exT]
    · have h24' : ¬ (k : Int) = 24 := by omega
      cases hq : isL c q with
      | true =>
        refine ⟨v', w', ?_⟩
        simp [gN, CL.gTup, CL.gCons, CL.gNil, sIf, CL.tOr, CL.tB, c2, cVar, slotD, cK, oDo, cVal, h24, h24', CL.tNot, cStat, aCons, aNil, is_bridge_ok, hq, sNil]
        simpa [tq, cStat, cVal] using ih
      | false =>
        refine ⟨.d (.int (k : Nat)), .d (qd q), ?_⟩
        simp [gN, CL.gTup, CL.gCons, CL.gNil, sIf, CL.tOr, CL.tB, c2, cVar, slotD, cK, oDo, cVal, h24, h24', CL.tNot, cStat, aCons, aNil, is_bridge_ok, hq, sRaiseK, exT]
end Law
set_option Elab.async false
set_option linter.all false
set_option maxRecDepth 100000
set_option maxHeartbeats 4000000
namespace Law
open PySem CL
variable [TheK]
theorem nsl : ¬ (("size" : Str) = ("links" : Str)) := by decide +kernel
theorem init_ok (a : Ad) (c : Int) (qs : List Quad) (S : Store) (i : Nat) (h : S[i]? = some (.ins a.C_Town [] [])) : g_Town__init a [.ptr i, .int c, tq qs] S = match badOf c qs with
    | some (p, k) => .exc (exT a p k) S
    | none => .ok .non (S.set i (.ins a.C_Town [("size" : Str), ("links" : Str)] [.int c, tq qs])) := by
  obtain ⟨v', w', hL⟩ := in_loop a c S (.d (.ptr i)) qs qs 0 .u .u
  have hi : i < S.length := (List.getElem?_eq_some_iff.mp h).1
  simp [g_Town__init, CL.run, c_Town__init, sSeq, sIf, CL.tNot, CL.tB, cChain, oLe, oCmp, cK, cVar, slotD, oDo, cVal]
  unfold badOf
  by_cases hc : 1 ≤ c ∧ c ≤ 12
  · have hc2 : ¬ (c < 1 ∨ 12 < c) := by omega
    have hc3 : ¬ (c ≤ 0 ∨ 12 < c) := by omega
    simp [hc, hc2, hc3, sNil, sFor, CL.iEnum, cVar, slotD, tq, oDo, enumD]
    simp [tq, cVal] at hL
    rw [hL]
    cases hb : badFrom c 0 qs with
    | none => simp [sField, cVar, slotD, oDo, h, List.getElem?_set_self hi, putN, nsl]
    | some k => simp
  · have hc2 : (c < 1 ∨ 12 < c) := by omega
    have hc3 : (c ≤ 0 ∨ 12 < c) := by omega
    simp [hc, hc2, hc3, sRaiseK, aCons, aNil, cK, oDo, exT]
theorem mix_ok (a : Ad) (ns : List Int) (hl : ns.length ≤ 63) : ∃ m : Int, g_law_mix a [.scr ns, .int 1] [] = .ok (.ptr 1) [.lst (ns.map D.int), .lst [.int m, .ptr 0, .int 0]] := by
  have lp : ∀ (xs : List Int) (m : Int) (v : SV), ∃ (m' : Int) (v' : SV), loop (gN 3) (sSet 2 (c2 oMod (c2 oAdd (c2 oAdd (c2 oMul (cVar 2) (cK (.int 48271))) (c2 oMod (cVar 3) (cK (.int 2147483629)))) (cK (.int 1))) (cK (.int 2147483647)))) (xs.map D.int) [.d (.scr ns), .d (.int 1), .d (.int m), v] [] = .nx [.d (.scr ns), .d (.int 1), .d (.int m'), v'] [] := by
    intro xs
    induction xs with
    | nil => exact fun m v => ⟨m, v, by simp [loop]⟩
    | cons x xs ih =>
      intro m v
      obtain ⟨m', v', h⟩ := ih ((m * 48271 + x % 2147483629 + 1) % 2147483647) (.d (.int x))
      refine ⟨m', v', ?_⟩
      simp only [List.map_cons, loop, gN]
      simp [sSet, c2, cVar, slotD, cK, oDo, oMod, oAdd, oMul, smallI]
      simpa [sSet] using h
  obtain ⟨m', v', h⟩ := lp ns 1 .u
  refine ⟨m', ?_⟩
  have hl' : ns.length ≤ 16777216 := by omega
  have e1 : sSet 2 (cVar 1) [.d (.scr ns), .d (.int 1), .u, .u] [] = .nx [.d (.scr ns), .d (.int 1), .d (.int 1), .u] [] := by simp [sSet, cVar, slotD, oDo]
  have e2 : CL.iSeq (cVar 0) [.d (.scr ns), .d (.int 1), .d (.int 1), .u] [] = .ok (ns.map D.int) [] := by simp [CL.iSeq, cVar, slotD]
  have e3 : sFor (CL.iSeq (cVar 0)) (gN 3) (sSet 2 (c2 oMod (c2 oAdd (c2 oAdd (c2 oMul (cVar 2) (cK (.int 48271))) (c2 oMod (cVar 3) (cK (.int 2147483629)))) (cK (.int 1))) (cK (.int 2147483647)))) [.d (.scr ns), .d (.int 1), .d (.int 1), .u] [] = .nx [.d (.scr ns), .d (.int 1), .d (.int m'), v'] [] := by
    unfold sFor
    rw [e2]
    exact h
  simp only [g_law_mix, CL.run, c_law_mix, sSeq, List.map_cons, List.map_nil, List.length_cons, List.length_nil, List.cons_append, List.nil_append]
  show (match (match sSet 2 (cVar 1) [.d (.scr ns), .d (.int 1), .u, .u] [] with | .nx z' S' => _ | o => o) with | .nx _ S' => R.ok D.non S' | .rt d S' => .ok d S' | .exc x _ S' => .exc x S' | _ => .bad) = _
  have e0 : ((SV.d (D.scr ns) :: SV.d (D.int 1) :: List.replicate (4 - (0 + 1 + 1)) SV.u).set 2 (SV.d (D.int 1))) = [.d (.scr ns), .d (.int 1), .d (.int 1), .u] := rfl
  rw [e1]
  dsimp only
  rw [e0, e3]
  simp [sRet, cToP, cLst, aCons, aNil, cVar, slotD, cApp, bList, itemsOf, cK, oDo]

end Law
set_option Elab.async false
set_option linter.all false
set_option maxRecDepth 100000
set_option maxHeartbeats 4000000
namespace Law
open PySem CL
variable [TheK]
/-- the store: the state of the numbers, then the rest -/
def Nx (rest S : Store) : Prop := ∃ (m t : Int) (cs : List Int), cs.length ≤ 63 ∧ S = .lst (cs.map D.int) :: .lst [.int m, .ptr 0, .int t] :: rest
theorem next_nx (a : Ad) {rest S : Store} (h : Nx rest S) (lim : Int) (h0 : 0 < lim) (h1 : lim.natAbs.log2 < 9000) : ∃ (r : Int) (S' : Store), g_law_next a [.ptr 1, .int lim] S = .ok (.int r) S' ∧ 0 ≤ r ∧ r < lim ∧ Nx rest S' := by
  obtain ⟨m, t, cs, hl, rfl⟩ := h
  obtain ⟨r, m', t', cs', e, h2, h3, h4⟩ := next_ok a m t cs rest lim hl h0 h1
  exact ⟨r, _, e, h2, h3, m', t', cs', by omega, rfl⟩
theorem pow6 : (10 : Int) ^ 6 = 1000000 := by decide
theorem lgs : (4 : Int).natAbs.log2 < 9000 ∧ (9 : Int).natAbs.log2 < 9000 ∧ (40 : Int).natAbs.log2 < 9000 ∧ (1000000 : Int).natAbs.log2 < 9000 ∧ (1000000000000000001 : Int).natAbs.log2 < 9000 := by decide +kernel
theorem life_ok (a : Ad) {rest S : Store} (h : Nx rest S) : ∃ (r : Int) (S' : Store), g_law_life a [.ptr 1, .bl true] S = .ok (.int r) S' ∧ Nx rest S' := by
  obtain ⟨l1, l2, l3, l4, l5⟩ := lgs
  obtain ⟨r, S1, e1, h1, h2, h3⟩ := next_nx a h 4 (by decide) l1
  have pick : ∃ lim : Int, L2.atI [D.int 9, D.int 40, D.int 1000000, D.int 1000000000000000001] r = some (.int lim) ∧ 0 < lim ∧ lim.natAbs.log2 < 9000 := by
    have : r = 0 ∨ r = 1 ∨ r = 2 ∨ r = 3 := by omega
    rcases this with rfl | rfl | rfl | rfl
    · exact ⟨9, by simp, by decide, l2⟩
    · exact ⟨40, by simp, by decide, l3⟩
    · exact ⟨1000000, by simp, by decide, l4⟩
    · exact ⟨1000000000000000001, by simp, by decide, l5⟩
  obtain ⟨lim, p1, p2, p3⟩ := pick
  obtain ⟨r2, S2, e2, _, _, h5⟩ := next_nx a h3 lim p2 p3
  refine ⟨r2, S2, ?_, h5⟩
  simp [g_law_life, CL.run, c_law_life, sRet, cCall, cApp, aCons, aNil, cVar, slotD, c2, cLst, cK, oPow, oAdd, pow6, pow18, CL.cIf, CL.tB, oDo, e1, oIx, itemsOf, p1, e2]
end Law
set_option Elab.async false
set_option linter.all false
set_option maxRecDepth 100000
set_option maxHeartbeats 4000000
namespace Law
open PySem CL
variable [TheK]
def linksBody (a : Ad) : CS := (sSeq (sSet 6 (cCall (g_law_next a) (aCons (cVar 0) (aCons (cVar 1) aNil)))) (sSeq (sSet 7 (c2 oMod (c2 oAdd (c2 oAdd (cVar 6) (cK (.int 1))) (cCall (g_law_next a) (aCons (cVar 0) (aCons (c2 oSub (cVar 1) (cK (.int 1))) aNil)))) (cVar 1))) (sAppend 4 (cTup (aCons (cVar 6) (aCons (cVar 7) (aCons (c2 oAdd (cK (.int 1)) (cCall (g_law_next a) (aCons (cVar 0) (aCons (c2 oIx (cLst (aCons (cK (.int 3)) (aCons (cK (.int 99)) aNil))) (c2 oDiv (cCall (g_law_next a) (aCons (cVar 0) (aCons (cK (.int 4)) aNil))) (cK (.int 3)))) aNil)))) (aCons (cCall (g_law_life a) (aCons (cVar 0) (aCons (cVar 3) aNil))) aNil))))))))
theorem links_turn (a : Ad) {rest S : Store} (h : Nx rest S) (c : Int) (hc : 1 < c) (hc2 : c ≤ 12) (acc : List Quad) (ha : acc.length < 1000) (v2 : SV) (v5 v6 v7 : SV) :
    ∃ (q : Quad) (S' : Store) (w6 w7 : SV), linksBody a [.d (.ptr 1), .d (.int c), v2, .d (.bl true), .l (acc.map qd), v5, v6, v7] S = .nx [.d (.ptr 1), .d (.int c), v2, .d (.bl true), .l ((acc ++ [q]).map qd), v5, w6, w7] S' ∧ Nx rest S' := by
  have lc : c.natAbs.log2 < 9000 := by
    have : c.natAbs < 2 ^ 9000 := Nat.lt_of_le_of_lt (by omega : c.natAbs ≤ 12) (by decide +kernel)
    exact (Nat.log2_lt (by omega)).mpr this
  have lc1 : (c - 1).natAbs.log2 < 9000 := by
    have : (c - 1).natAbs < 2 ^ 9000 := Nat.lt_of_le_of_lt (by omega : (c - 1).natAbs ≤ 12) (by decide +kernel)
    exact (Nat.log2_lt (by omega)).mpr this
  obtain ⟨l4, _⟩ := lgs
  have l3 : (3 : Int).natAbs.log2 < 9000 ∧ (99 : Int).natAbs.log2 < 9000 ∧ Nat.log2 3 < 9000 := by decide +kernel
  obtain ⟨r1, S1, e1, a1, b1, n1⟩ := next_nx a h c (by omega) lc
  obtain ⟨r2, S2, e2, a2, b2, n2⟩ := next_nx a n1 (c - 1) (by omega) lc1
  obtain ⟨r3, S3, e3, a3, b3, n3⟩ := next_nx a n2 4 (by decide) l4
  have pick : ∃ lim : Int, L2.atI [D.int 3, D.int 99] (r3 / 3) = some (.int lim) ∧ 0 < lim ∧ lim.natAbs.log2 < 9000 := by
    have : r3 / 3 = 0 ∨ r3 / 3 = 1 := by omega
    rcases this with e | e
    · exact ⟨3, by rw [e]; simp, by decide, l3.1⟩
    · exact ⟨99, by rw [e]; simp, by decide, l3.2.1⟩
  obtain ⟨lim, p1, p2, p3⟩ := pick
  obtain ⟨r4, S4, e4, a4, b4, n4⟩ := next_nx a n3 lim p2 p3
  obtain ⟨r5, S5, e5, n5⟩ := life_ok a n4
  have hc0 : 0 < c := by omega
  have ha2 : acc.length < 16777216 := by omega
  refine ⟨⟨r1, (r1 + 1 + r2) % c, 1 + r4, r5⟩, S5, .d (.int r1), .d (.int ((r1 + 1 + r2) % c)), ?_, n5⟩
  simp [linksBody, sSeq, sSet, cCall, cApp, aCons, aNil, cVar, slotD, oDo, e1, e2, e3, e4, e5, c2, oMod, oAdd, oSub, cK, hc0, sAppend, cTup, oIx, itemsOf, cLst, oDiv, l3, p1, ha2, qd]
end Law
set_option Elab.async false
set_option linter.all false
set_option maxRecDepth 100000
set_option maxHeartbeats 4000000
namespace Law
open PySem CL
variable [TheK]
theorem links_loop (a : Ad) {rest : Store} (c : Int) (hc : 1 < c) (hc2 : c ≤ 12) (v2 : SV) : ∀ (ks : List D) (S : Store) (acc : List Quad) (v5 v6 v7 : SV), Nx rest S → acc.length + ks.length ≤ 1000 →
    ∃ (qs : List Quad) (S' : Store) (w5 w6 w7 : SV), loop (gN 5) (linksBody a) ks [.d (.ptr 1), .d (.int c), v2, .d (.bl true), .l (acc.map qd), v5, v6, v7] S = .nx [.d (.ptr 1), .d (.int c), v2, .d (.bl true), .l (qs.map qd), w5, w6, w7] S' ∧ Nx rest S' ∧ qs.length = acc.length + ks.length
  | [], S, acc, v5, v6, v7, h, hl => ⟨acc, S, v5, v6, v7, by simp [loop], h, by simp⟩
  | k :: ks, S, acc, v5, v6, v7, h, hl => by
    have hl' : acc.length + (ks.length + 1) ≤ 1000 := by simpa using hl
    obtain ⟨q, S1, w6, w7, e1, n1⟩ := links_turn a h c hc hc2 acc (by omega) v2 (.d k) v6 v7
    obtain ⟨qs, S2, x5, x6, x7, e2, n2, l2⟩ := links_loop a c hc hc2 v2 ks S1 (acc ++ [q]) (.d k) w6 w7 n1 (by simp; omega)
    refine ⟨qs, S2, x5, x6, x7, ?_, n2, by rw [l2]; simp; omega⟩
    rw [loop]
    simp only [gN, List.set]
    rw [e1]
    exact e2
theorem links_ok (a : Ad) {rest S : Store} (h : Nx rest S) (c : Int) (hc : 1 ≤ c) (hc2 : c ≤ 12) : ∃ (qs : List Quad) (S' : Store), g_law_links a [.ptr 1, .int c, .int 24, .bl true] S = .ok (tq qs) S' ∧ Nx rest S' ∧ qs.length ≤ 24 := by
  have l25 : (25 : Int).natAbs.log2 < 9000 := by decide +kernel
  by_cases h1 : 1 < c
  · obtain ⟨r, S1, e1, a1, b1, n1⟩ := next_nx a h 25 (by decide) l25
    obtain ⟨n, rfl⟩ : ∃ n : Nat, r = (n : Int) := ⟨r.toNat, by omega⟩
    obtain ⟨qs, S2, w5, w6, w7, e2, n2, l2⟩ := links_loop a c h1 hc2 (.d (.int 24)) ((List.range' 0 n).map fun (k : Nat) => D.int (k : Int)) S1 [] .u .u .u n1 (by simp; omega)
    refine ⟨qs, S2, ?_, n2, by rw [l2]; simp; omega⟩
    have src : CL.iRange1 (CL.cIf (CL.tB (c2 oGt (cVar 1) (cK (.int 1)))) (cCall (g_law_next a) (aCons (cVar 0) (aCons (c2 oAdd (cVar 2) (cK (.int 1))) aNil))) (cK (.int 0))) [.d (.ptr 1), .d (.int c), .d (.int 24), .d (.bl true), .l [], .u, .u, .u] S = .ok ((List.range' 0 n).map fun (k : Nat) => D.int (k : Int)) S1 := by
      refine iRange1_nat ?_ (by omega)
      simp [CL.cIf, CL.tB, c2, oGt, oCmp, cVar, slotD, cK, h1, cCall, cApp, aCons, aNil, oAdd, e1]
    simp only [List.map_nil] at e2
    simp [g_law_links, CL.run, c_law_links, sSeq, sSetL, cLst, aNil, oDo, sFor, src]
    simp only [linksBody] at e2
    rw [e2]
    simp [sFrz, sRet, cApp, aCons, aNil, cVar, slotD, bTuple, oDo, tq]
  · refine ⟨[], S, ?_, h, by simp⟩
    have src : CL.iRange1 (CL.cIf (CL.tB (c2 oGt (cVar 1) (cK (.int 1)))) (cCall (g_law_next a) (aCons (cVar 0) (aCons (c2 oAdd (cVar 2) (cK (.int 1))) aNil))) (cK (.int 0))) [.d (.ptr 1), .d (.int c), .d (.int 24), .d (.bl true), .l [], .u, .u, .u] S = .ok ((List.range' 0 0).map fun (k : Nat) => D.int (k : Int)) S := by
      refine iRange1_nat (n := 0) ?_ (by omega)
      simp [CL.cIf, CL.tB, c2, oGt, oCmp, cVar, slotD, cK, h1]
    simp at src
    simp [g_law_links, CL.run, c_law_links, sSeq, sSetL, cLst, aNil, oDo, sFor, src, loop, sFrz, sRet, cApp, aCons, cVar, slotD, bTuple, tq]
end Law
set_option Elab.async false
set_option linter.all false
set_option maxRecDepth 100000
set_option maxHeartbeats 4000000
namespace Law
open PySem CL
variable [TheK]
def pyq (q : Quad) : PyData := .tuple [.int q.q1, .int q.q2, .int q.q3, .int q.q4]
theorem toPy_qd (q : Quad) : toPy (qd q) = some (pyq q) := by simp [qd, pyq, toPy, toPys]
theorem toPys_qd : ∀ qs : List Quad, toPys (qs.map qd) = some (qs.map pyq)
  | [] => rfl
  | q :: qs => by simp [toPys, toPy_qd, toPys_qd qs]
theorem toPy_tq (qs : List Quad) : toPy (tq qs) = some (.tuple (qs.map pyq)) := by simp [tq, toPy, toPys_qd]
theorem can_qs : ∀ qs : List Quad, PyData.canLayAll0 (qs.map pyq) = true
  | [] => rfl
  | q :: qs => by simp [PyData.canLayAll0, PyData.canLay0, pyq, can_qs qs]
theorem dep_qs : ∀ qs : List Quad, PyData.depthAll (qs.map pyq) ≤ 1
  | [] => by simp [PyData.depthAll]
  | q :: qs => by
    have := dep_qs qs
    simp [PyData.depthAll, PyData.depth, pyq]
    omega
theorem shaped_tq (qs : List Quad) : SeqAt.shaped (.tuple (qs.map pyq)) = true := by
  have := dep_qs qs
  simp [SeqAt.shaped, PyData.canLay0, can_qs, PyData.depth]
  omega
theorem oEq_nil (qs : List Quad) (S : Store) : oEq false (tq qs) (.tup []) S = .ok (.bl qs.isEmpty) S := by
  have e : toPy (.tup []) = some (.tuple []) := by simp [toPy, toPys]
  have l1 : look S (tq qs) = tq qs := by simp [look, tq]
  have l2 : look S (.tup []) = .tup [] := by simp [look]
  have s0 := shaped_tq []
  simp only [List.map_nil] at s0
  unfold oEq
  rw [l1, l2, toPy_tq, e]
  dsimp only
  rw [shaped_tq, s0]
  cases qs with
  | nil => simp [PyData.eqv, PyData.eqvAll]
  | cons q qs => simp [PyData.eqv, PyData.eqvAll]
end Law
set_option Elab.async false
set_option linter.all false
set_option maxRecDepth 100000
set_option maxHeartbeats 4000000
namespace Law
open PySem CL
variable [TheK]
theorem cut_pre (xs : List D) (k : Nat) (h : k ≤ xs.length) : cutL xs none (some (k : Int)) = xs.take k := by
  unfold cutL
  rw [HT.sIx_none, HT.sIx_nat, Nat.min_eq_left h]
  simp
theorem cut_suf (xs : List D) (k : Nat) (h : k ≤ xs.length) : cutL xs (some (k : Int)) none = xs.drop k := by
  unfold cutL
  rw [HT.sIx_none, HT.sIx_nat, Nat.min_eq_left h]
  rw [List.take_of_length_le (by simp)]
/-- q with its j-th number another one -/
def setQ (q : Quad) (j : Nat) (x : Int) : Quad := match j with
  | 0 => { q with q1 := x }
  | 1 => { q with q2 := x }
  | 2 => { q with q3 := x }
  | _ => { q with q4 := x }
theorem cat_q (q : Quad) (j : Nat) (hj : j < 4) (x : Int) (S : Store) : cutL [D.int q.q1, .int q.q2, .int q.q3, .int q.q4] none (some (j : Int)) ++ [D.int x] ++ cutL [D.int q.q1, .int q.q2, .int q.q3, .int q.q4] (some ((j + 1 : Nat) : Int)) none = [D.int (setQ q j x).q1, .int (setQ q j x).q2, .int (setQ q j x).q3, .int (setQ q j x).q4] := by
  rw [cut_pre _ _ (by simp; omega), cut_suf _ _ (by simp; omega)]
  have : j = 0 ∨ j = 1 ∨ j = 2 ∨ j = 3 := by omega
  rcases this with rfl | rfl | rfl | rfl <;> simp [setQ]
end Law
set_option Elab.async false
set_option linter.all false
set_option maxRecDepth 100000
set_option maxHeartbeats 4000000
namespace Law
open PySem CL
variable [TheK]
theorem lg_small {i : Int} (h : i.natAbs ≤ 1000) : i.natAbs.log2 < 9000 := by
  by_cases h0 : i.natAbs = 0
  · rw [h0]; decide +kernel
  · have : i.natAbs < 2 ^ 9000 := Nat.lt_of_le_of_lt h (by decide +kernel)
    exact (Nat.log2_lt h0).mpr this
theorem cut_q (qs : List Quad) (k : Nat) (hk : k < qs.length) (q : Quad) : cutL (qs.map qd) none (some (k : Int)) ++ [qd q] ++ cutL (qs.map qd) (some ((k + 1 : Nat) : Int)) none = (qs.take k ++ [q] ++ qs.drop (k + 1)).map qd := by
  rw [cut_pre _ _ (by simp; omega), cut_suf _ _ (by simp; omega)]
  simp
theorem spoilt_ok (a : Ad) {rest S : Store} (h : Nx rest S) (c : Int) (qs : List Quad) (hl : qs.length ≤ 24) : ∃ (qs' : List Quad) (S' : Store), g_law_spoilt a [.ptr 1, .int c, tq qs] S = .ok (tq qs') S' ∧ Nx rest S' ∧ qs'.length = qs.length := by
  by_cases hq : qs = []
  · subst hq
    refine ⟨[], S, ?_, h, rfl⟩
    have := oEq_nil [] S
    simp [tq] at this
    simp [g_law_spoilt, CL.run, c_law_spoilt, sSeq, sIf, CL.tB, c2, cVar, slotD, cTup, aNil, oDo, sRet, tq, this]
  · have hp : 0 < qs.length := List.length_pos_iff.mpr hq
    have hp' : (0 : Int) < (qs.length : Int) := by omega
    obtain ⟨k0, S1, e1, a1, b1, n1⟩ := next_nx a h (qs.length : Int) hp' (lg_small (by omega))
    obtain ⟨k, rfl⟩ : ∃ k : Nat, k0 = (k : Int) := ⟨k0.toNat, by omega⟩
    obtain ⟨j0, S2, e2, a2, b2, n2⟩ := next_nx a n1 4 (by decide) lgs.1
    obtain ⟨j, rfl⟩ : ∃ j : Nat, j0 = (j : Int) := ⟨j0.toNat, by omega⟩
    have hk : k < qs.length := by omega
    have eq1 : L2.atI (qs.map qd) (k : Int) = some (qd qs[k]) := L2.atI_nat (by simp [hk])
    have pick : ∃ od : List Int, L2.atI [D.lst [.int (-1), .int c, .int qs[k].q2], D.lst [.int (-1), .int c, .int qs[k].q1], D.lst [.int 0, .int 100, .int (-1), .int 99], D.lst [.int (-1), .int 1000000000000000001, .int 1000000000000000000]] (j : Int) = some (.lst (od.map D.int)) ∧ 0 < od.length ∧ od.length ≤ 4 := by
      have : j = 0 ∨ j = 1 ∨ j = 2 ∨ j = 3 := by omega
      rcases this with rfl | rfl | rfl | rfl
      · exact ⟨[-1, c, qs[k].q2], by simp, by simp, by simp⟩
      · exact ⟨[-1, c, qs[k].q1], by simp, by simp, by simp⟩
      · exact ⟨[0, 100, -1, 99], by simp, by simp, by simp⟩
      · exact ⟨[-1, 1000000000000000001, 1000000000000000000], by simp, by simp, by simp⟩
    obtain ⟨od, p1, p2, p3⟩ := pick
    obtain ⟨r0, S3, e3, a3, b3, n3⟩ := next_nx a n2 (od.length : Int) (by omega) (lg_small (by omega))
    obtain ⟨r, rfl⟩ : ∃ r : Nat, r0 = (r : Int) := ⟨r0.toNat, by omega⟩
    have hr : r < od.length := by omega
    have p4 : L2.atI (od.map D.int) (r : Int) = some (.int od[r]) := L2.atI_nat (by simp [hr])
    have c1 := cat_q qs[k] j (by omega) od[r] S3
    have c2' := cut_q qs k hk (setQ qs[k] j od[r])
    have nn : oEq false (tq qs) (.tup []) S = .ok (.bl false) S := by
      rw [oEq_nil]; cases qs with
      | nil => exact absurd rfl hq
      | cons _ _ => rfl
    refine ⟨qs.take k ++ [setQ qs[k] j od[r]] ++ qs.drop (k + 1), S3, ?_, n3, by simp; omega⟩
    have l1 : (cutL [D.int qs[k].q1, .int qs[k].q2, .int qs[k].q3, .int qs[k].q4] none (some (j : Int))).length ≤ 4 := by
      rw [cut_pre _ _ (by simp; omega)]; simp; omega
    have l2 : (cutL [D.int qs[k].q1, .int qs[k].q2, .int qs[k].q3, .int qs[k].q4] (some ((j + 1 : Nat) : Int)) none).length ≤ 4 := by
      rw [cut_suf _ _ (by simp; omega)]; simp; omega
    have l3 : (cutL (qs.map qd) none (some (k : Int))).length ≤ 24 := by
      rw [cut_pre _ _ (by simp; omega)]; simp; omega
    have l4 : (cutL (qs.map qd) (some ((k + 1 : Nat) : Int)) none).length ≤ 24 := by
      rw [cut_suf _ _ (by simp; omega)]; simp; omega
    have ej : ((j + 1 : Nat) : Int) = (j : Int) + 1 := by simp
    have ek : ((k + 1 : Nat) : Int) = (k : Int) + 1 := by simp
    rw [ej] at c1 l2
    rw [ek] at c2' l4
    have m1 : (cutL [D.int qs[k].q1, .int qs[k].q2, .int qs[k].q3, .int qs[k].q4] none (some (j : Int))).length + 1 ≤ 16777216 := by omega
    have m2 : (cutL [D.int qs[k].q1, .int qs[k].q2, .int qs[k].q3, .int qs[k].q4] none (some (j : Int))).length + 1 + (cutL [D.int qs[k].q1, .int qs[k].q2, .int qs[k].q3, .int qs[k].q4] (some ((j : Int) + 1)) none).length ≤ 16777216 := by omega
    have m3 : (cutL (qs.map qd) none (some (k : Int))).length + 1 ≤ 16777216 := by omega
    have m4 : (cutL (qs.map qd) none (some (k : Int))).length + 1 + (cutL (qs.map qd) (some ((k : Int) + 1)) none).length ≤ 16777216 := by omega
    have sA : sIf (CL.tB (c2 (oEq false) (cVar 2) (cTup aNil))) (sRet (cVar 2)) sNil [.d (.ptr 1), .d (.int c), .d (tq qs), .u, .u, .u, .u] S = .nx [.d (.ptr 1), .d (.int c), .d (tq qs), .u, .u, .u, .u] S := by
      simp [sIf, CL.tB, c2, cVar, slotD, cTup, aNil, oDo, nn, sNil]
    have sB : sPar 3 4 (aCons (cCall (g_law_next a) (aCons (cVar 0) (aCons (cApp bLen (aCons (cVar 2) aNil)) aNil))) (aCons (cCall (g_law_next a) (aCons (cVar 0) (aCons (cK (.int 4)) aNil))) aNil)) [.d (.ptr 1), .d (.int c), .d (tq qs), .u, .u, .u, .u] S = .nx [.d (.ptr 1), .d (.int c), .d (tq qs), .d (.int k), .d (.int j), .u, .u] S2 := by
      simp [sPar, aCons, aNil, cCall, cApp, cVar, slotD, bLen, itemsOf, tq, e1, e2, oDo, cK]
    simp only [g_law_spoilt, CL.run, c_law_spoilt, List.map_cons, List.map_nil, List.length_cons, List.length_nil, List.cons_append, List.nil_append]
    have rp : List.replicate (7 - (0 + 1 + 1 + 1)) SV.u = [.u, .u, .u, .u] := rfl
    rw [rp]
    simp only [sSeq]
    simp only [sA]
    simp only [sB]
    simp [sSet, c1, c2, cVar, slotD, oDo, cK, oIx, itemsOf, tq, eq1, CL.c1, oNeg, cLst, aCons, aNil, qd, oPow, pow18, oAdd, p1, cCall, cApp, bLen, e3, p4, cCut, oNone, oSome, oCut, cTup, sRet, m1, m2, m3, m4]
    simpa [qd] using c2'
end Law
set_option Elab.async false
set_option linter.all false
set_option maxRecDepth 100000
set_option maxHeartbeats 4000000
namespace Law
open PySem CL
variable [TheK]
theorem eq_str (neg : Bool) (x y : Str) (S : Store) (hx : PyData.canLay0 (.str x) = true) (hy : PyData.canLay0 (.str y) = true) : oEq neg (.str x) (.str y) S = .ok (.bl (if neg then !(x == y) else (x == y))) S := by
  simp only [PyData.canLay0] at hx hy
  simp [oEq, look, toPy, SeqAt.shaped, PyData.canLay0, hx, hy, PyData.depth, PyData.eqv]
theorem err_none (a : Ad) (act : CE) (z : Sl) (S S' : Store) (h : act z S = .ok .non S') : cLam 5 (fun ac => cb_law_error a ac) act z S = .ok (.tup [.str ("none" : Str)]) S' := by
  simp [cLam, cb_law_error, sSeq, sTryAs, sExpr, cAct, h, oDo, sRet, cTup, aCons, aNil, cK]
theorem err_town (a : Ad) (act : CE) (z : Sl) (S S' : Store) (p : Str) (k : Int) (h : act z S = .exc (exT a p k) S') : cLam 5 (fun ac => cb_law_error a ac) act z S = .ok (.tup [.str ("town" : Str), .str p, .int k]) S' := by
  have c1 := eq_str false ("town" : Str) ("town" : Str) S' (by decide +kernel) (by decide +kernel)
  have ip : ¬ (("index" : Str) = ("part" : Str)) := by decide +kernel
  have pi : ¬ (("part" : Str) = ("index" : Str)) := by decide +kernel
  have cnt : List.countP (fun z => L2.eqV z (L2.V.bl true)) [L2.V.bl true, L2.V.bl false, L2.V.bl false, L2.V.bl false, L2.V.bl false, L2.V.bl false, L2.V.bl false, L2.V.bl false, L2.V.bl false, L2.V.bl false, L2.V.bl false, L2.V.bl false] = 1 := by rfl
  have fnd : findV (L2.V.bl true) [L2.V.bl true, L2.V.bl false, L2.V.bl false, L2.V.bl false, L2.V.bl false, L2.V.bl false, L2.V.bl false, L2.V.bl false, L2.V.bl false, L2.V.bl false, L2.V.bl false, L2.V.bl false] = some 0 := by rfl
  simp at c1
  simp [cLam, cb_law_error, sSeq, sTryAs, sExpr, cAct, h, oDo, exT, exm_BridgeError, sSetL, sExtend, sFrz, sIf, CL.tOr, CL.tB, CL.tNot, c2, cLm, cVar, slotD, cK, cIsE, aCons, aNil, cLst, kit_InvalidTown, kit_InvalidText, kit_InvalidTrips, kit_InvalidCount, kit_InvalidLife, kit_InvalidLoad, kit_UnknownPlace, kit_UnknownBridge, kit_UnknownKind, kit_TooManyBridges, kit_DifferentTowns, kit_Contradiction, kit_ValueError, oCount, oIndex, itemsOf, toVs, toV, cnt, fnd, sNil, sSet, sRet, cTup, oAdd, oIx, unx, cXf, c1, List.lookup, beq_eq_false_iff_ne.mpr ip, beq_eq_false_iff_ne.mpr pi]
end Law
set_option Elab.async false
set_option linter.all false
set_option maxRecDepth 100000
set_option maxHeartbeats 4000000
namespace Law
open PySem CL
variable [TheK]
@[simp] theorem kb_NoneType_dict : L2.kitB "NoneType" "dict" = some false := by decide +kernel
@[simp] theorem kb_NoneType_tuple : L2.kitB "NoneType" "tuple" = some false := by decide +kernel
@[simp] theorem kb_NoneType_list : L2.kitB "NoneType" "list" = some false := by decide +kernel
@[simp] theorem kb_NoneType_str : L2.kitB "NoneType" "str" = some false := by decide +kernel
@[simp] theorem kb_NoneType_int : L2.kitB "NoneType" "int" = some false := by decide +kernel
@[simp] theorem kb_NoneType_bool : L2.kitB "NoneType" "bool" = some false := by decide +kernel
@[simp] theorem kb_bool_dict : L2.kitB "bool" "dict" = some false := by decide +kernel
@[simp] theorem kb_bool_tuple : L2.kitB "bool" "tuple" = some false := by decide +kernel
@[simp] theorem kb_bool_list : L2.kitB "bool" "list" = some false := by decide +kernel
@[simp] theorem kb_bool_str : L2.kitB "bool" "str" = some false := by decide +kernel
@[simp] theorem kb_bool_int : L2.kitB "bool" "int" = some true := by decide +kernel
@[simp] theorem kb_bool_bool : L2.kitB "bool" "bool" = some true := by decide +kernel
@[simp] theorem kb_int_dict : L2.kitB "int" "dict" = some false := by decide +kernel
@[simp] theorem kb_int_tuple : L2.kitB "int" "tuple" = some false := by decide +kernel
@[simp] theorem kb_int_list : L2.kitB "int" "list" = some false := by decide +kernel
@[simp] theorem kb_int_str : L2.kitB "int" "str" = some false := by decide +kernel
@[simp] theorem kb_int_int : L2.kitB "int" "int" = some true := by decide +kernel
@[simp] theorem kb_int_bool : L2.kitB "int" "bool" = some false := by decide +kernel
@[simp] theorem kb_str_dict : L2.kitB "str" "dict" = some false := by decide +kernel
@[simp] theorem kb_str_tuple : L2.kitB "str" "tuple" = some false := by decide +kernel
@[simp] theorem kb_str_list : L2.kitB "str" "list" = some false := by decide +kernel
@[simp] theorem kb_str_str : L2.kitB "str" "str" = some true := by decide +kernel
@[simp] theorem kb_str_int : L2.kitB "str" "int" = some false := by decide +kernel
@[simp] theorem kb_str_bool : L2.kitB "str" "bool" = some false := by decide +kernel
@[simp] theorem kb_tuple_dict : L2.kitB "tuple" "dict" = some false := by decide +kernel
@[simp] theorem kb_tuple_tuple : L2.kitB "tuple" "tuple" = some true := by decide +kernel
@[simp] theorem kb_tuple_list : L2.kitB "tuple" "list" = some false := by decide +kernel
@[simp] theorem kb_tuple_str : L2.kitB "tuple" "str" = some false := by decide +kernel
@[simp] theorem kb_tuple_int : L2.kitB "tuple" "int" = some false := by decide +kernel
@[simp] theorem kb_tuple_bool : L2.kitB "tuple" "bool" = some false := by decide +kernel
@[simp] theorem kb_list_dict : L2.kitB "list" "dict" = some false := by decide +kernel
@[simp] theorem kb_list_tuple : L2.kitB "list" "tuple" = some false := by decide +kernel
@[simp] theorem kb_list_list : L2.kitB "list" "list" = some true := by decide +kernel
@[simp] theorem kb_list_str : L2.kitB "list" "str" = some false := by decide +kernel
@[simp] theorem kb_list_int : L2.kitB "list" "int" = some false := by decide +kernel
@[simp] theorem kb_list_bool : L2.kitB "list" "bool" = some false := by decide +kernel
@[simp] theorem kb_bytes_dict : L2.kitB "bytes" "dict" = some false := by decide +kernel
@[simp] theorem kb_bytes_tuple : L2.kitB "bytes" "tuple" = some false := by decide +kernel
@[simp] theorem kb_bytes_list : L2.kitB "bytes" "list" = some false := by decide +kernel
@[simp] theorem kb_bytes_str : L2.kitB "bytes" "str" = some false := by decide +kernel
@[simp] theorem kb_bytes_int : L2.kitB "bytes" "int" = some false := by decide +kernel
@[simp] theorem kb_bytes_bool : L2.kitB "bytes" "bool" = some false := by decide +kernel
/-- data of numbers, truth values, tuples, lists: at most n deep -/
def okD : Nat → D → Bool
  | _, .int _ => true
  | _, .bl _ => true
  | n + 1, .tup xs => decide (xs.length ≤ 1000) && xs.all (okD n)
  | n + 1, .lst xs => decide (xs.length ≤ 1000) && xs.all (okD n)
  | _, _ => false
theorem lcGo_none (g : Tg) (t : CT) (e : CE) (z : Sl) (S : Store) : ∀ (ds : List D) (acc : List D), (∀ d ∈ ds, ∃ z1, g d z = some z1 ∧ t z1 S = .ok false S) → lcGo g t e z ds S acc = .ok acc S
  | [], acc, _ => rfl
  | d :: ds, acc, h => by
    obtain ⟨z1, h1, h2⟩ := h d (by simp)
    unfold lcGo
    simp only [h1, h2]
    exact lcGo_none g t e z S ds acc fun d hd => h d (by simp [hd])
theorem oEq_nilL (S : Store) : oEq false (.lst []) (.lst []) S = .ok (.bl true) S := by
  simp [oEq, look, toPy, toPys, PyData.eqv, PyData.eqvAll]
  rfl
theorem alike_seq (a : Ad) (n : Nat) (b : Bool) (xs : List D) (S : Store) (hl : xs.length ≤ 1000) (ih : ∀ x ∈ xs, g_law_alike a n [x, x] S = .ok (.bl true) S) :
    g_law_alike a (n + 1) [if b then .tup xs else .lst xs, if b then .tup xs else .lst xs] S = .ok (.bl true) S := by
  have b2 : (xs.length : Int) < 4611686018427387904 := by omega
  have it : CL.iRange1 (cApp bLen (aCons (cVar 1) aNil)) [.d (if b then .tup xs else .lst xs), .d (if b then .tup xs else .lst xs), .u] S = .ok ((List.range' 0 xs.length).map fun (k : Nat) => D.int (k : Int)) S := by
    refine iRange1_nat ?_ (by omega)
    cases b <;> simp [cApp, aCons, aNil, cVar, slotD, bLen, itemsOf]
  have lc : cLc (CL.iRange1 (cApp bLen (aCons (cVar 1) aNil))) (gN 2) (CL.tNot (CL.tB (cCall (g_law_alike a n) (aCons (c2 oIx (cVar 0) (cVar 2)) (aCons (c2 oIx (cVar 1) (cVar 2)) aNil))))) (cVar 2) [2] [.d (if b then .tup xs else .lst xs), .d (if b then .tup xs else .lst xs), .u] S = .ok (.lst []) S := by
    unfold cLc
    rw [it]
    simp only [R.bind]
    rw [lcGo_none]
    intro d hd
    simp only [List.mem_map, List.mem_range'_1] at hd
    obtain ⟨k, hk, rfl⟩ := hd
    have hk' : k < xs.length := by omega
    refine ⟨_, rfl, ?_⟩
    have e1 : L2.atI xs (k : Int) = some xs[k] := L2.atI_nat (by simp [hk'])
    have := ih xs[k] (List.getElem_mem hk')
    cases b <;> simp [wipeD, CL.tNot, CL.tB, cCall, cApp, aCons, aNil, c2, cVar, slotD, oIx, itemsOf, e1, this]
  have rp : List.replicate (3 - (0 + 1 + 1)) SV.u = [.u] := rfl
  simp only [g_law_alike, CL.run, c_law_alike, List.map_cons, List.map_nil, List.length_cons, List.length_nil, List.cons_append, List.nil_append, rp]
  cases b
  · simp at lc
    simp [sSeq, sIf, CL.tB, CL.tOr, CL.tNot, c2, cVar, slotD, cK, oDo, aCons, aNil, cApp, bIsi, bIsi.kits, tyOf, cTup, sNil, bLen, itemsOf, sRet, cLst]
    simp [lc, oEq_nilL]
  · simp at lc
    simp [sSeq, sIf, CL.tB, CL.tOr, CL.tNot, c2, cVar, slotD, cK, oDo, aCons, aNil, cApp, bIsi, bIsi.kits, tyOf, cTup, sNil, bLen, itemsOf, sRet, cLst]
    simp [lc, oEq_nilL]
theorem alike_ok (a : Ad) (S : Store) : ∀ (n : Nat) (x : D), okD n x = true → g_law_alike a (n + 1) [x, x] S = .ok (.bl true) S
  | n, .int i, _ => by
    simp [g_law_alike, CL.run, c_law_alike, sSeq, sIf, CL.tB, CL.tOr, CL.tNot, c2, cVar, slotD, cK, oDo, aCons, aNil, cApp, bIsi, bIsi.kits, tyOf, cTup, sNil, xIsN, oIsN, isNon, sRet, cAnd]
  | n, .bl b, _ => by
    simp [g_law_alike, CL.run, c_law_alike, sSeq, sIf, CL.tB, CL.tOr, CL.tNot, c2, cVar, slotD, cK, oDo, aCons, aNil, cApp, bIsi, bIsi.kits, tyOf, cTup, sNil, xIsN, oIsN, isNon, sRet, cAnd]
  | n + 1, .tup xs, h => by
    simp only [okD, Bool.and_eq_true, decide_eq_true_eq, List.all_eq_true] at h
    exact alike_seq a (n + 1) true xs S h.1 fun x hx => alike_ok a S n x (h.2 x hx)
  | n + 1, .lst xs, h => by
    simp only [okD, Bool.and_eq_true, decide_eq_true_eq, List.all_eq_true] at h
    exact alike_seq a (n + 1) false xs S h.1 fun x hx => alike_ok a S n x (h.2 x hx)
  | n, .non, h => by cases n <;> simp [okD] at h
  | n, .str _, h => by cases n <;> simp [okD] at h
  | n, .byt _, h => by cases n <;> simp [okD] at h
  | n, .scr _, h => by cases n <;> simp [okD] at h
  | n, .dct _ _, h => by cases n <;> simp [okD] at h
  | n, .obj _ _ _, h => by cases n <;> simp [okD] at h
  | n, .ptr _, h => by cases n <;> simp [okD] at h
  | n, .ref _, h => by cases n <;> simp [okD] at h
  | n, .ty _, h => by cases n <;> simp [okD] at h
  | 0, .tup _, h => by simp [okD] at h
  | 0, .lst _, h => by simp [okD] at h
end Law
set_option Elab.async false
set_option linter.all false
set_option maxRecDepth 100000
set_option maxHeartbeats 4000000
namespace Law
open PySem CL
variable [TheK]
def b1 (a : Ad) : CS := (sSet 3 (c2 oAdd (cK (.int 1)) (cCall (g_law_next a) (aCons (cVar 1) (aCons (cK (.int 12)) aNil)))))
def b2 (a : Ad) : CS := (sSet 4 (cCall (g_law_links a) (aCons (cVar 1) (aCons (cVar 3) (aCons (cK (.int 24)) (aCons (cK (.bl true)) aNil))))))
def b3 (a : Ad) : CS := (sIf (CL.tB (c2 (oEq false) (cCall (g_law_next a) (aCons (cVar 1) (aCons (cK (.int 2)) aNil))) (cK (.int 0)))) (sSet 4 (cCall (g_law_spoilt a) (aCons (cVar 1) (aCons (cVar 3) (aCons (cVar 4) aNil))))) sNil)
def b4 (a : Ad) : CS := (sIf (CL.tB (c2 (oEq false) (cCall (g_law_next a) (aCons (cVar 1) (aCons (cK (.int 8)) aNil))) (cK (.int 0)))) (sAsg (c2 oIx (cLst (aCons (cTup (aCons (cK (.int 0)) (aCons (cTup aNil) aNil))) (aCons (cTup (aCons (cK (.int 13)) (aCons (cTup aNil) aNil))) (aCons (cTup (aCons (cK (.int 2)) (aCons (c2 oMul (cTup (aCons (cTup (aCons (cK (.int 0)) (aCons (cK (.int 1)) (aCons (cK (.int 1)) (aCons (cK (.int 0)) aNil))))) aNil)) (cK (.int 25))) aNil))) (aCons (cTup (aCons (CL.c1 oNeg (cK (.int 1))) (aCons (cTup aNil) aNil))) aNil))))) (cCall (g_law_next a) (aCons (cVar 1) (aCons (cK (.int 4)) aNil)))) (CL.gTup 2 (CL.gCons (gN 3) (CL.gCons (gN 4) CL.gNil)))) sNil)
def b5 (a : Ad) : CS := (sAsg (cTup (aCons (cCall (g_law_first_bad a) (aCons (cVar 3) (aCons (cVar 4) aNil))) (aCons (cToP (cLst aNil)) aNil))) (CL.gTup 2 (CL.gCons (gN 5) (CL.gCons (gN 6) CL.gNil))))
def b6 (a : Ad) : CS := (sSet 7 (cLam 5 (fun ac => cb_law_error a ac) (cAppendP (cVar 6) (cMake a.C_Town (g_Town__init a) (aCons (cVar 3) (aCons (cVar 4) aNil))))))
def b7 (a : Ad) : CS := (sIf (CL.tB (c2 (oEq true) (cVar 7) (CL.cIf (CL.tB (c2 xIsN (cVar 5) (cK .non))) (cTup (aCons (cK (.str ("none" : Str))) aNil)) (c2 oAdd (cTup (aCons (cK (.str ("town" : Str))) aNil)) (cVar 5))))) (sRet (cK (.bl false))) sNil)
def b8 (a : Ad) : CS := (sFor (CL.iSeq (cCut (cVar 4) oNone (oSome (cK (.int 5))))) (gN 8) (sIf (CL.tNot (CL.tB (cCall (g_law_alike a 5) (aCons (cStat a.C_Town (g_Town_is_bridge a) (cK (.ref a.C_Town)) (aCons (cApp bMax2 (aCons (cK (.int 1)) (aCons (cVar 3) aNil))) (aCons (cVar 8) aNil))) (aCons (cCall (g_law_is_link a) (aCons (cApp bMax2 (aCons (cK (.int 1)) (aCons (cVar 3) aNil))) (aCons (cVar 8) aNil))) aNil))))) (sRet (cK (.bl false))) sNil))
def b9 (a : Ad) : CS := (sIf (CL.tB (c2 xIsN (cVar 5) (cK .non))) (sSeq (sSet 9 (c2 oIx (cVar 6) (cK (.int 0)))) (sSeq (sIf (CL.tNot (CL.tB (cCall (g_law_alike a 5) (aCons (cLst (aCons (cProp a.C_Town (gNox (g_Town_place_count a)) (cVar 9)) (aCons (cProp a.C_Town (gNox (g_Town_bridges a)) (cVar 9)) aNil))) (aCons (cLst (aCons (cVar 3) (aCons (cVar 4) aNil))) aNil))))) (sRet (cK (.bl false))) sNil) (sIf (CL.tNot (CL.tB (cCall (g_law_alike a 5) (aCons (cProp a.C_Town (gNox (g_Town_lives a)) (cVar 9)) (aCons (cApp bTuple (aCons (cLc (CL.iSeq (cVar 4)) (gN 8) CL.tYesC (c2 oIx (cVar 8) (cK (.int 3))) [8]) aNil)) aNil))))) (sRet (cK (.bl false))) sNil))) sNil)
def lawBody (a : Ad) : CS := sSeq (b1 a) (sSeq (b2 a) (sSeq (b3 a) (sSeq (b4 a) (sSeq (b5 a) (sSeq (b6 a) (sSeq (b7 a) (sSeq (b8 a) (b9 a))))))))
def b8b (a : Ad) : CS := (sIf (CL.tNot (CL.tB (cCall (g_law_alike a 5) (aCons (cStat a.C_Town (g_Town_is_bridge a) (cK (.ref a.C_Town)) (aCons (cApp bMax2 (aCons (cK (.int 1)) (aCons (cVar 3) aNil))) (aCons (cVar 8) aNil))) (aCons (cCall (g_law_is_link a) (aCons (cApp bMax2 (aCons (cK (.int 1)) (aCons (cVar 3) aNil))) (aCons (cVar 8) aNil))) aNil))))) (sRet (cK (.bl false))) sNil)
def b9a (a : Ad) : CS := (sSet 9 (c2 oIx (cVar 6) (cK (.int 0))))
def b9b (a : Ad) : CS := (sIf (CL.tNot (CL.tB (cCall (g_law_alike a 5) (aCons (cLst (aCons (cProp a.C_Town (gNox (g_Town_place_count a)) (cVar 9)) (aCons (cProp a.C_Town (gNox (g_Town_bridges a)) (cVar 9)) aNil))) (aCons (cLst (aCons (cVar 3) (aCons (cVar 4) aNil))) aNil))))) (sRet (cK (.bl false))) sNil)
def b9c (a : Ad) : CS := (sIf (CL.tNot (CL.tB (cCall (g_law_alike a 5) (aCons (cProp a.C_Town (gNox (g_Town_lives a)) (cVar 9)) (aCons (cApp bTuple (aCons (cLc (CL.iSeq (cVar 4)) (gN 8) CL.tYesC (c2 oIx (cVar 8) (cK (.int 3))) [8]) aNil)) aNil))))) (sRet (cK (.bl false))) sNil)
theorem seq_nx {a b : CS} {z z' : Sl} {S S' : Store} (h : a z S = .nx z' S') : sSeq a b z S = b z' S' := by simp [sSeq, h]
theorem nx_app {rest S : Store} (h : Nx rest S) (m : MO) : Nx (rest ++ [m]) (S ++ [m]) := by
  obtain ⟨a, b, c, d, rfl⟩ := h
  exact ⟨a, b, c, d, by simp⟩
theorem nx_set {rest S : Store} (h : Nx rest S) (i : Nat) (hi : 2 ≤ i) (m : MO) : Nx (rest.set (i - 2) m) (S.set i m) := by
  obtain ⟨a, b, c, d, rfl⟩ := h
  obtain ⟨j, rfl⟩ : ∃ j, i = j + 2 := ⟨i - 2, by omega⟩
  exact ⟨a, b, c, d, by simp [List.set]⟩
theorem nx_len {rest S : Store} (h : Nx rest S) : S.length = rest.length + 2 := by
  obtain ⟨a, b, c, d, rfl⟩ := h
  simp
theorem eq_self (x : D) (d : PyData) (S : Store) (h : toPy x = some d) (hl : look S x = x) (hs : SeqAt.shaped d = true) (neg : Bool) : oEq neg x x S = .ok (.bl (!neg)) S := by
  have e : PyData.eqv d d = true := SeqAt.eqv_refl d (by
    unfold SeqAt.shaped at hs
    rw [Bool.and_eq_true] at hs
    exact hs.1)
  unfold oEq
  rw [hl, h]
  dsimp only
  rw [hs, e]
  cases neg <;> rfl
section
variable (a : Ad) {rest S : Store} (v0 v2 v3 v4 v5 v6 v7 v8 v9 : SV)
theorem t1 (h : Nx rest S) : ∃ (c : Int) (S' : Store), b1 a [v0, .d (.ptr 1), v2, v3, v4, v5, v6, v7, v8, v9] S = .nx [v0, .d (.ptr 1), v2, .d (.int c), v4, v5, v6, v7, v8, v9] S' ∧ 1 ≤ c ∧ c ≤ 12 ∧ Nx rest S' := by
  obtain ⟨r, S1, e1, h1, h2, h3⟩ := next_nx a h 12 (by decide) (lg_small (by decide))
  refine ⟨1 + r, S1, ?_, by omega, by omega, h3⟩
  simp [b1, sSet, c2, cK, cCall, cApp, aCons, aNil, cVar, slotD, e1, oAdd, oDo]
theorem t2 (h : Nx rest S) (c : Int) (hc : 1 ≤ c) (hc2 : c ≤ 12) : ∃ (qs : List Quad) (S' : Store), b2 a [v0, .d (.ptr 1), v2, .d (.int c), v4, v5, v6, v7, v8, v9] S = .nx [v0, .d (.ptr 1), v2, .d (.int c), .d (tq qs), v5, v6, v7, v8, v9] S' ∧ Nx rest S' ∧ qs.length ≤ 24 := by
  obtain ⟨qs, S1, e1, h1, h2⟩ := links_ok a h c hc hc2
  refine ⟨qs, S1, ?_, h1, h2⟩
  simp [b2, sSet, cK, cCall, cApp, aCons, aNil, cVar, slotD, e1, oDo]
theorem t3 (h : Nx rest S) (c : Int) (qs : List Quad) (hl : qs.length ≤ 24) : ∃ (qs' : List Quad) (S' : Store), b3 a [v0, .d (.ptr 1), v2, .d (.int c), .d (tq qs), v5, v6, v7, v8, v9] S = .nx [v0, .d (.ptr 1), v2, .d (.int c), .d (tq qs'), v5, v6, v7, v8, v9] S' ∧ Nx rest S' ∧ qs'.length ≤ 24 := by
  obtain ⟨r, S1, e1, h1, h2, h3⟩ := next_nx a h 2 (by decide) (lg_small (by decide))
  by_cases hr : r = 0
  · obtain ⟨qs', S2, e2, h4, h5⟩ := spoilt_ok a h3 c qs hl
    refine ⟨qs', S2, ?_, h4, by omega⟩
    simp [b3, sIf, CL.tB, sSet, c2, cK, cCall, cApp, aCons, aNil, cVar, slotD, e1, e2, hr, oDo]
  · refine ⟨qs, S1, ?_, h3, hl⟩
    simp [b3, sIf, CL.tB, sSet, c2, cK, cCall, cApp, aCons, aNil, cVar, slotD, e1, hr, oDo, sNil]
theorem t4 (h : Nx rest S) (c : Int) (qs : List Quad) (hl : qs.length ≤ 24) : ∃ (c' : Int) (qs' : List Quad) (S' : Store), b4 a [v0, .d (.ptr 1), v2, .d (.int c), .d (tq qs), v5, v6, v7, v8, v9] S = .nx [v0, .d (.ptr 1), v2, .d (.int c'), .d (tq qs'), v5, v6, v7, v8, v9] S' ∧ Nx rest S' ∧ qs'.length ≤ 25 := by
  obtain ⟨r, S1, e1, h1, h2, h3⟩ := next_nx a h 8 (by decide) (lg_small (by decide))
  by_cases hr : r = 0
  · obtain ⟨r2, S2, e2, h4, h5, h6⟩ := next_nx a h3 4 (by decide) (lg_small (by decide))
    have pick : ∃ (c' : Int) (qs' : List Quad), L2.atI [D.tup [.int 0, .tup []], D.tup [.int 13, .tup []], D.tup [.int 2, .tup (List.replicate 25 [D.tup [.int 0, .int 1, .int 1, .int 0]]).flatten], D.tup [.int (-1), .tup []]] r2 = some (.tup [.int c', tq qs']) ∧ qs'.length ≤ 25 := by
      have : r2 = 0 ∨ r2 = 1 ∨ r2 = 2 ∨ r2 = 3 := by omega
      rcases this with rfl | rfl | rfl | rfl
      · exact ⟨0, [], by simp [tq], by simp⟩
      · exact ⟨13, [], by simp [tq], by simp⟩
      · exact ⟨2, List.replicate 25 ⟨0, 1, 1, 0⟩, by rw [atI2]; rfl, by simp⟩
      · exact ⟨-1, [], by simp [tq], by simp⟩
    obtain ⟨c', qs', p1, p2⟩ := pick
    refine ⟨c', qs', S2, ?_, h6, p2⟩
    simp [b4, sIf, CL.tB, sAsg, CL.c1, c2, cK, cCall, cApp, aCons, aNil, cVar, slotD, e1, e2, hr, oDo, cLst, cTup, oMul, oNeg, oIx, itemsOf, CL.gTup, CL.gCons, CL.gNil, gN]
    simp at p1
    simp [p1]
  · refine ⟨c, qs, S1, ?_, h3, by omega⟩
    simp [b4, sIf, CL.tB, c2, cK, cCall, cApp, aCons, aNil, cVar, slotD, e1, hr, oDo, sNil]
theorem t5 (c : Int) (qs : List Quad) (hl : qs.length ≤ 25) : b5 a [v0, .d (.ptr 1), v2, .d (.int c), .d (tq qs), v5, v6, v7, v8, v9] S = .nx [v0, .d (.ptr 1), v2, .d (.int c), .d (tq qs), .d (badD (badOf c qs)), .d (.ptr S.length), v7, v8, v9] (S ++ [.lst []]) := by
  have e := first_bad_ok a c qs S (by omega)
  simp [b5, sAsg, cTup, aCons, aNil, cCall, cApp, cVar, slotD, e, cToP, cLst, oDo, CL.gTup, CL.gCons, CL.gNil, gN]
def errD : Option (Str × Int) → D
  | none => .tup [.str ("none" : Str)]
  | some (s, k) => .tup [.str ("town" : Str), .str s, .int k]
/-- what the results' list holds then -/
def Made (a : Ad) (c : Int) (qs : List Quad) (i : Nat) (S : Store) : Prop := badOf c qs = none → ∃ j, S[i]? = some (.lst [.ptr j]) ∧ S[j]? = some (.ins a.C_Town [("size" : Str), ("links" : Str)] [.int c, tq qs])
theorem t6 (h : Nx rest S) (c : Int) (qs : List Quad) : ∃ (rest' S' : Store), b6 a [v0, .d (.ptr 1), v2, .d (.int c), .d (tq qs), .d (badD (badOf c qs)), .d (.ptr S.length), v7, v8, v9] (S ++ [.lst []]) = .nx [v0, .d (.ptr 1), v2, .d (.int c), .d (tq qs), .d (badD (badOf c qs)), .d (.ptr S.length), .d (errD (badOf c qs)), v8, v9] S' ∧ Nx rest' S' ∧ Made a c qs S.length S' := by
  have hi : (S ++ [.lst []] ++ [.ins a.C_Town [] []])[S.length + 1]? = some (.ins a.C_Town [] []) := by simp
  have e := init_ok a c qs (S ++ [.lst []] ++ [.ins a.C_Town [] []]) (S.length + 1) hi
  have h1 := nx_app (nx_app h (.lst [])) (.ins a.C_Town [] [])
  have hn := nx_len h
  have g0 : (S ++ [MO.lst []])[S.length]? = some (.lst []) := by simp
  cases hb : badOf c qs with
  | none =>
    rw [hb] at e
    have h2 := nx_set h1 (S.length + 1) (by omega) (.ins a.C_Town [("size" : Str), ("links" : Str)] [.int c, tq qs])
    have h3 := nx_set h2 S.length (by omega) (.lst [.ptr (S.length + 1)])
    refine ⟨_, _, ?_, h3, fun _ => ⟨S.length + 1, ?_, ?_⟩⟩
    · have act : cAppendP (cVar 6) (cMake a.C_Town (g_Town__init a) (aCons (cVar 3) (aCons (cVar 4) aNil))) [v0, .d (.ptr 1), v2, .d (.int c), .d (tq qs), .d (badD none), .d (.ptr S.length), v7, v8, v9] (S ++ [.lst []]) = .ok .non (((S ++ [MO.lst []] ++ [MO.ins a.C_Town [] []]).set (S.length + 1) (.ins a.C_Town [("size" : Str), ("links" : Str)] [.int c, tq qs])).set S.length (.lst [.ptr (S.length + 1)])) := by
        simp at e
        have g1 : ((S ++ [MO.lst [], .ins a.C_Town [] []]).set (S.length + 1) (.ins a.C_Town [("size" : Str), ("links" : Str)] [.int c, tq qs]))[S.length]? = some (.lst []) := by
          rw [List.getElem?_set_ne (by omega)]; simp
        simp [cAppendP, cVar, slotD, g0, cMake, aCons, aNil, e, g1]
      simp [b6, sSet, err_none _ _ _ _ _ act, oDo, errD]
    · rw [List.getElem?_set_self (by simp)]
    · rw [List.getElem?_set_ne (by omega), List.getElem?_set_self (by simp)]
  | some pk =>
    obtain ⟨p, k⟩ := pk
    rw [hb] at e
    refine ⟨_, _, ?_, h1, fun z => by rw [hb] at z; cases z⟩
    have act : cAppendP (cVar 6) (cMake a.C_Town (g_Town__init a) (aCons (cVar 3) (aCons (cVar 4) aNil))) [v0, .d (.ptr 1), v2, .d (.int c), .d (tq qs), .d (badD (some (p, k))), .d (.ptr S.length), v7, v8, v9] (S ++ [.lst []]) = .exc (exT a p k) (S ++ [.lst []] ++ [.ins a.C_Town [] []]) := by
      simp at e
      simp [cAppendP, cVar, slotD, g0, cMake, aCons, aNil, e]
    simp [b6, sSet, err_town _ _ _ _ _ _ _ act, oDo, errD]
theorem bad_str {c : Int} {qs : List Quad} {p : Str} {k : Int} (h : badOf c qs = some (p, k)) : p = ("bridges" : Str) ∨ p = ("count" : Str) := by
  unfold badOf at h
  split at h
  · cases hb : badFrom c 0 qs with
    | none => rw [hb] at h; cases h
    | some j => rw [hb] at h; simp at h; exact .inl h.1.symm
  · simp at h; exact .inr h.1.symm
theorem t7 (x3 x4 x6 : SV) (c : Int) (qs : List Quad) : b7 a [v0, .d (.ptr 1), v2, x3, x4, .d (badD (badOf c qs)), x6, .d (errD (badOf c qs)), v8, v9] S = .nx [v0, .d (.ptr 1), v2, x3, x4, .d (badD (badOf c qs)), x6, .d (errD (badOf c qs)), v8, v9] S := by
  cases hb : badOf c qs with
  | none =>
    have e := eq_self (.tup [.str ("none" : Str)]) (.tuple [.str ("none" : Str)]) S (by simp [toPy, toPys]) rfl (by decide +kernel) true
    simp [b7, sIf, CL.tB, c2, cVar, slotD, CL.cIf, xIsN, oIsN, isNon, badD, cK, cTup, aCons, aNil, errD, e, oDo, sNil]
  | some pk =>
    obtain ⟨p, k⟩ := pk
    have hs : SeqAt.shaped (.tuple [.str ("town" : Str), .str p, .int k]) = true := by
      have h0 : PyData.canLay0 (.str ("town" : Str)) = true := by decide +kernel
      have h1 : PyData.canLay0 (.str p) = true := by
        rcases bad_str hb with rfl | rfl <;> decide +kernel
      simp only [PyData.canLay0] at h0 h1
      simp [SeqAt.shaped, PyData.canLay0, PyData.canLayAll0, h0, h1, PyData.depth, PyData.depthAll]
    have e := eq_self (.tup [.str ("town" : Str), .str p, .int k]) (.tuple [.str ("town" : Str), .str p, .int k]) S (by simp [toPy, toPys]) rfl hs true
    simp [b7, sIf, CL.tB, c2, cVar, slotD, CL.cIf, xIsN, oIsN, isNon, badD, cK, cTup, aCons, aNil, errD, oAdd, e, oDo, sNil]
theorem t8_loop (c : Int) (v : SV) (x5 x6 x7 : SV) : ∀ (qs : List Quad) (w : SV), ∃ w', loop (gN 8) (b8b a) (qs.map qd) [v0, .d (.ptr 1), v2, .d (.int c), v, x5, x6, x7, w, v9] S = .nx [v0, .d (.ptr 1), v2, .d (.int c), v, x5, x6, x7, w', v9] S
  | [], w => ⟨w, by simp [loop]⟩
  | q :: qs, w => by
    obtain ⟨w', ih⟩ := t8_loop c v x5 x6 x7 qs (.d (qd q))
    refine ⟨w', ?_⟩
    have e1 := is_bridge_ok a (if c > 1 then c else 1) q S
    have e2 := is_link_ok a (if c > 1 then c else 1) q S
    have e3 := alike_ok a S 4 (.bl (isL (if c > 1 then c else 1) q)) (by rfl)
    simp only [List.map_cons, loop, gN]
    have one : b8b a [v0, .d (.ptr 1), v2, .d (.int c), v, x5, x6, x7, .d (qd q), v9] S = .nx [v0, .d (.ptr 1), v2, .d (.int c), v, x5, x6, x7, .d (qd q), v9] S := by
      simp at e1 e2 e3
      simp [b8b, sIf, CL.tNot, CL.tB, cCall, cApp, aCons, aNil, cStat, cK, cVar, slotD, bMax2, e1, e2, e3, oDo, sNil]
    show (match b8b a [v0, .d (.ptr 1), v2, .d (.int c), v, x5, x6, x7, .d (qd q), v9] S with | .nx z2 S2 => _ | .ct z2 S2 => _ | .bk z2 S2 => _ | o => o) = _
    rw [one]
    exact ih
theorem t8 (c : Int) (qs : List Quad) (x5 x6 x7 : SV) : ∃ w', b8 a [v0, .d (.ptr 1), v2, .d (.int c), .d (tq qs), x5, x6, x7, v8, v9] S = .nx [v0, .d (.ptr 1), v2, .d (.int c), .d (tq qs), x5, x6, x7, w', v9] S := by
  obtain ⟨w', h⟩ := t8_loop a v0 v2 v9 c (.d (tq qs)) x5 x6 x7 (qs.take 5) v8
  refine ⟨w', ?_⟩
  have it : CL.iSeq (cCut (cVar 4) oNone (oSome (cK (.int 5)))) [v0, .d (.ptr 1), v2, .d (.int c), .d (tq qs), x5, x6, x7, v8, v9] S = .ok ((qs.take 5).map qd) S := by
    have e : cutL (qs.map qd) none (some 5) = (qs.take 5).map qd := by
      unfold cutL
      rw [HT.sIx_none, show (5 : Int) = ((5 : Nat) : Int) from rfl, HT.sIx_nat]
      simp
    simp [CL.iSeq, cCut, cVar, slotD, oNone, oSome, cK, oCut, tq, e]
  unfold b8 sFor
  rw [it]
  exact h
theorem lc_lives : ∀ (qs : List Quad) (z : Sl) (S : Store) (acc : List D), z.length = 10 → acc.length + qs.length ≤ 1000 → lcGo (gN 8) CL.tYesC (c2 oIx (cVar 8) (cK (.int 3))) z (qs.map qd) S acc = .ok (acc ++ qs.map fun q => D.int q.q4) S
  | [], z, S, acc, hz, hl => by simp [lcGo]
  | q :: qs, z, S, acc, hz, hl => by
    have hl' : acc.length + (qs.length + 1) ≤ 1000 := by simpa using hl
    have ih := lc_lives qs z S (acc ++ [.int q.q4]) hz (by simp; omega)
    have e : (z.set 8 (.d (qd q)))[8]? = some (.d (qd q)) := List.getElem?_set_self (by omega)
    have ha : acc.length < 16777216 := by omega
    have v : c2 oIx (cVar 8) (cK (.int 3)) (z.set 8 (.d (qd q))) S = .ok (.int q.q4) S := by
      simp only [c2, cVar, e]
      simp [slotD, cK, oIx, itemsOf, qd]
    simp only [List.map_cons, lcGo, gN, CL.tYesC, v, if_pos ha, ih]
    simp
end
end Law
set_option Elab.async false
set_option linter.all false
set_option maxRecDepth 100000
set_option maxHeartbeats 4000000
namespace Law
open PySem CL
variable [TheK]
section
variable (a : Ad) {rest S : Store} (v0 v2 v3 v4 v5 v6 v7 v8 v9 : SV)
theorem call_ok {g : G} {ca : CA} {z : Sl} {S S1 : Store} {xs : List D} {r : R D} (h1 : ca z S = .ok xs S1) (h2 : g xs S1 = r) : cCall g ca z S = r := by simp [cCall, cApp, h1, h2]
theorem args_cons {c : CE} {ca : CA} {z : Sl} {S S1 S2 : Store} {x : D} {xs : List D} (h1 : c z S = .ok x S1) (h2 : ca z S1 = .ok xs S2) : aCons c ca z S = .ok (x :: xs) S2 := by simp [aCons, h1, h2]
theorem args_nil (z : Sl) (S : Store) : aNil z S = .ok [] S := rfl
theorem okD_qd (q : Quad) : okD 1 (qd q) = true := by simp [okD, qd]
theorem okD_tq (qs : List Quad) (h : qs.length ≤ 1000) : okD 2 (tq qs) = true := by
  simp only [okD, tq, Bool.and_eq_true, decide_eq_true_eq, List.all_eq_true, List.length_map]
  refine ⟨h, fun x hx => ?_⟩
  obtain ⟨q, _, rfl⟩ := List.mem_map.mp hx
  exact okD_qd q
theorem lc_town (i : Nat) : ∀ (qs : List Quad) (S : Store) (acc : List D), acc.length + qs.length ≤ 1000 → lcGo (CL.gTup 4 (CL.gCons (gN 1) (CL.gCons (gN 2) (CL.gCons (gN 3) (CL.gCons (gN 4) CL.gNil))))) CL.tYesC (cVar 4) [.d (.ptr i), .u, .u, .u, .u] (qs.map qd) S acc = .ok (acc ++ qs.map fun q => D.int q.q4) S
  | [], S, acc, hl => by simp [lcGo]
  | q :: qs, S, acc, hl => by
    have hl' : acc.length + (qs.length + 1) ≤ 1000 := by simpa using hl
    have ih := lc_town i qs S (acc ++ [.int q.q4]) (by simp; omega)
    have ha : acc.length < 16777216 := by omega
    have g : (CL.gTup 4 (CL.gCons (gN 1) (CL.gCons (gN 2) (CL.gCons (gN 3) (CL.gCons (gN 4) CL.gNil))))) (qd q) [.d (.ptr i), .u, .u, .u, .u] = some [.d (.ptr i), .d (.int q.q1), .d (.int q.q2), .d (.int q.q3), .d (.int q.q4)] := rfl
    simp only [List.map_cons, lcGo, g, CL.tYesC]
    have v : cVar 4 [.d (.ptr i), .d (.int q.q1), .d (.int q.q2), .d (.int q.q3), .d (.int q.q4)] S = .ok (.int q.q4) S := rfl
    simp only [v, if_pos ha, ih]
    simp
def TownAt (a : Ad) (c : Int) (qs : List Quad) (j : Nat) (S : Store) : Prop := S[j]? = some (.ins a.C_Town [("size" : Str), ("links" : Str)] [.int c, tq qs])
theorem nsl2 : ¬ (("links" : Str) = ("size" : Str)) := by decide +kernel
theorem town_count {c : Int} {qs : List Quad} {j : Nat} (h : TownAt a c qs j S) : g_Town_place_count a [.ptr j] S = .ok (.int c) S := by
  have h' : S[j]? = some (.ins a.C_Town [("size" : Str), ("links" : Str)] [.int c, tq qs]) := h
  simp [g_Town_place_count, CL.run, c_Town_place_count, sRet, cFld, cVar, slotD, classOf, fieldOf, h', oDo]
theorem town_links {c : Int} {qs : List Quad} {j : Nat} (h : TownAt a c qs j S) : g_Town_bridges a [.ptr j] S = .ok (tq qs) S := by
  have h' : S[j]? = some (.ins a.C_Town [("size" : Str), ("links" : Str)] [.int c, tq qs]) := h
  have n1 := nsl2
  simp [g_Town_bridges, CL.run, c_Town_bridges, sRet, cFld, cVar, slotD, classOf, fieldOf, h', oDo, List.lookup, beq_eq_false_iff_ne.mpr n1]
def lifeD (qs : List Quad) : D := .tup (qs.map fun q => D.int q.q4)
theorem town_lives {c : Int} {qs : List Quad} {j : Nat} (h : TownAt a c qs j S) (hl : qs.length ≤ 1000) : g_Town_lives a [.ptr j] S = .ok (lifeD qs) S := by
  have h' : S[j]? = some (.ins a.C_Town [("size" : Str), ("links" : Str)] [.int c, tq qs]) := h
  have n1 := nsl2
  have e := lc_town j qs S [] (by simpa using hl)
  have rp : List.replicate (5 - (0 + 1)) SV.u = [.u, .u, .u, .u] := rfl
  simp [g_Town_lives, CL.run, c_Town_lives, sRet, cApp, aCons, aNil, cLc, CL.iSeq, cFld, cVar, slotD, classOf, fieldOf, h', oDo, List.lookup, beq_eq_false_iff_ne.mpr n1, tq, wipeD]
  rw [e]
  simp [bTuple, lifeD]
theorem t9 (c : Int) (qs : List Quad) (hl : qs.length ≤ 25) (i : Nat) (hm : Made a c qs i S) (x7 : SV) : ∃ w8 w9, b9 a [v0, .d (.ptr 1), v2, .d (.int c), .d (tq qs), .d (badD (badOf c qs)), .d (.ptr i), x7, v8, v9] S = .nx [v0, .d (.ptr 1), v2, .d (.int c), .d (tq qs), .d (badD (badOf c qs)), .d (.ptr i), x7, w8, w9] S := by
  cases hb : badOf c qs with
  | some pk =>
    obtain ⟨p, k⟩ := pk
    exact ⟨v8, v9, by simp [b9, sIf, CL.tB, c2, cVar, slotD, badD, cK, xIsN, oIsN, isNon, oDo, sNil]⟩
  | none =>
    obtain ⟨j, h1, h2⟩ := hm hb
    have h2' : TownAt a c qs j S := h2
    have e1 := town_count a h2'
    have e2 := town_links a h2'
    have e3 := town_lives a h2' (by omega)
    refine ⟨v8, .d (.ptr j), ?_⟩
    have a1 := alike_ok a S 4 (.lst [.int c, tq qs]) (by simp [okD, okD_tq qs (by omega), tq]; simp [okD, qd]; omega)
    have a2 := alike_ok a S 4 (lifeD qs) (by simp [okD, lifeD]; omega)
    have s1 : b9a a [v0, .d (.ptr 1), v2, .d (.int c), .d (tq qs), .d (badD none), .d (.ptr i), x7, v8, v9] S = .nx [v0, .d (.ptr 1), v2, .d (.int c), .d (tq qs), .d (badD none), .d (.ptr i), x7, v8, .d (.ptr j)] S := by
      simp [b9a, sSet, c2, cVar, slotD, cK, oIx, itemsOf, h1, oDo]
    have s2 : b9b a [v0, .d (.ptr 1), v2, .d (.int c), .d (tq qs), .d (badD none), .d (.ptr i), x7, v8, .d (.ptr j)] S = .nx [v0, .d (.ptr 1), v2, .d (.int c), .d (tq qs), .d (badD none), .d (.ptr i), x7, v8, .d (.ptr j)] S := by
      simp at a1
      simp [b9b, sIf, CL.tNot, CL.tB, cCall, cApp, aCons, aNil, cLst, cProp, cVar, slotD, classOf, h2, gNox, e1, e2, a1, oDo, sNil]
    have lv := lc_lives qs [v0, .d (.ptr 1), v2, .d (.int c), .d (tq qs), .d (badD none), .d (.ptr i), x7, .u, .d (.ptr j)] S [] rfl (by simp; omega)
    have s3 : b9c a [v0, .d (.ptr 1), v2, .d (.int c), .d (tq qs), .d (badD none), .d (.ptr i), x7, v8, .d (.ptr j)] S = .nx [v0, .d (.ptr 1), v2, .d (.int c), .d (tq qs), .d (badD none), .d (.ptr i), x7, v8, .d (.ptr j)] S := by
      have lv' : cLc (CL.iSeq (cVar 4)) (gN 8) CL.tYesC (c2 oIx (cVar 8) (cK (.int 3))) [8] [v0, .d (.ptr 1), v2, .d (.int c), .d (tq qs), .d (badD none), .d (.ptr i), x7, v8, .d (.ptr j)] S = .ok (.lst (qs.map fun q => D.int q.q4)) S := by
        simp [cLc, CL.iSeq, cVar, slotD, tq, wipeD]
        simp [tq, cVar] at lv
        rw [lv]
      have p1 : cProp a.C_Town (gNox (g_Town_lives a)) (cVar 9) [v0, .d (.ptr 1), v2, .d (.int c), .d (tq qs), .d (badD none), .d (.ptr i), x7, v8, .d (.ptr j)] S = .ok (lifeD qs) S := by
        simp [cProp, cVar, slotD, classOf, h2, gNox, e3]
      have p2 : cApp bTuple (aCons (cLc (CL.iSeq (cVar 4)) (gN 8) CL.tYesC (c2 oIx (cVar 8) (cK (.int 3))) [8]) aNil) [v0, .d (.ptr 1), v2, .d (.int c), .d (tq qs), .d (badD none), .d (.ptr i), x7, v8, .d (.ptr j)] S = .ok (lifeD qs) S := by
        simp only [cApp, aCons, aNil, lv', R.bind]
        simp [bTuple, lifeD]
      have p3 := call_ok (args_cons p1 (args_cons p2 (args_nil _ _))) a2
      unfold b9c sIf CL.tNot CL.tB
      rw [p3]
      simp [oDo, sNil]
    have tt : CL.tB (c2 xIsN (cVar 5) (cK .non)) [v0, .d (.ptr 1), v2, .d (.int c), .d (tq qs), .d (badD none), .d (.ptr i), x7, v8, v9] S = .ok true S := by
      simp [CL.tB, c2, cVar, slotD, badD, cK, xIsN, oIsN, isNon]
    have u : b9 a = sIf (CL.tB (c2 xIsN (cVar 5) (cK .non))) (sSeq (b9a a) (sSeq (b9b a) (b9c a))) sNil := rfl
    rw [u, sIf, tt]
    simp only [oDo, if_true]
    rw [seq_nx s1, seq_nx s2, s3]
theorem law_turn (h : Nx rest S) : ∃ (rest' S' : Store) (w3 w4 w5 w6 w7 w8 w9 : SV), lawBody a [v0, .d (.ptr 1), v2, v3, v4, v5, v6, v7, v8, v9] S = .nx [v0, .d (.ptr 1), v2, w3, w4, w5, w6, w7, w8, w9] S' ∧ Nx rest' S' := by
  obtain ⟨c, S1, e1, c1, c2, n1⟩ := t1 a v0 v2 v3 v4 v5 v6 v7 v8 v9 h
  obtain ⟨qs, S2, e2, n2, l2⟩ := t2 a v0 v2 v4 v5 v6 v7 v8 v9 n1 c c1 c2
  obtain ⟨qs3, S3, e3, n3, l3⟩ := t3 a v0 v2 v5 v6 v7 v8 v9 n2 c qs l2
  obtain ⟨c4, qs4, S4, e4, n4, l4⟩ := t4 a v0 v2 v5 v6 v7 v8 v9 n3 c qs3 l3
  have e5 := t5 a (S := S4) v0 v2 v5 v6 v7 v8 v9 c4 qs4 l4
  obtain ⟨rest6, S6, e6, n6, m6⟩ := t6 a v0 v2 v7 v8 v9 n4 c4 qs4
  have e7 := t7 a (S := S6) v0 v2 v8 v9 (.d (.int c4)) (.d (tq qs4)) (.d (.ptr S4.length)) c4 qs4
  obtain ⟨w8, e8⟩ := t8 a (S := S6) v0 v2 v8 v9 c4 qs4 (.d (badD (badOf c4 qs4))) (.d (.ptr S4.length)) (.d (errD (badOf c4 qs4)))
  obtain ⟨x8, x9, e9⟩ := t9 a (S := S6) v0 v2 w8 v9 c4 qs4 l4 S4.length m6 (.d (errD (badOf c4 qs4)))
  refine ⟨rest6, S6, .d (.int c4), .d (tq qs4), .d (badD (badOf c4 qs4)), .d (.ptr S4.length), .d (errD (badOf c4 qs4)), x8, x9, ?_, n6⟩
  unfold lawBody
  rw [seq_nx e1, seq_nx e2, seq_nx e3, seq_nx e4, seq_nx e5, seq_nx e6, seq_nx e7, seq_nx e8, e9]
theorem law_loop : ∀ (ks : List D) (rest S : Store) (v0 v2 v3 v4 v5 v6 v7 v8 v9 : SV), Nx rest S → ∃ (S' : Store) (z' : Sl), loop (gN 2) (lawBody a) ks [v0, .d (.ptr 1), v2, v3, v4, v5, v6, v7, v8, v9] S = .nx z' S'
  | [], rest, S, v0, v2, v3, v4, v5, v6, v7, v8, v9, h => ⟨S, _, rfl⟩
  | k :: ks, rest, S, v0, v2, v3, v4, v5, v6, v7, v8, v9, h => by
    obtain ⟨rest', S1, w3, w4, w5, w6, w7, w8, w9, e1, n1⟩ := law_turn a v0 (.d k) v3 v4 v5 v6 v7 v8 v9 h
    obtain ⟨S2, z2, e2⟩ := law_loop ks rest' S1 v0 (.d k) w3 w4 w5 w6 w7 w8 w9 n1
    refine ⟨S2, z2, ?_⟩
    rw [loop]
    simp only [gN, List.set]
    rw [e1]
    exact e2
theorem law_true (ns : List Int) (h : ns.length ≤ 63) : ∃ S', g_law a [.scr ns] [] = .ok (.bl true) S' := by
  obtain ⟨m, em⟩ := mix_ok a ns h
  have n0 : Nx [] [.lst (ns.map D.int), .lst [.int m, .ptr 0, .int 0]] := ⟨m, 0, ns, h, rfl⟩
  obtain ⟨S', z', e⟩ := law_loop a ((List.range 6).map fun (k : Nat) => D.int (0 + (k : Int))) [] _ (.d (.scr ns)) .u .u .u .u .u .u .u .u n0
  refine ⟨S', ?_⟩
  have fin : ∀ (z : Sl) (S : Store), sRet (c2 (oEq false) (cTup (aCons (cVal a.C_Town (.int 12) (cK (.ref a.C_Town))) (aCons (cVal a.C_Town (.int 24) (cK (.ref a.C_Town))) (aCons (cVal a.C_Town (.int 1000000000000000000) (cK (.ref a.C_Town))) aNil)))) (cTup (aCons (cK (.int 12)) (aCons (cK (.int 24)) (aCons (c2 oPow (cK (.int 10)) (cK (.int 18))) aNil))))) z S = .rt (.bl true) S := by
    intro z S
    have e := eq_self (.tup [.int 12, .int 24, .int 1000000000000000000]) (.tuple [.int 12, .int 24, .int 1000000000000000000]) S (by simp [toPy, toPys]) rfl (by decide +kernel) false
    simp [sRet, c2, cTup, aCons, aNil, cVal, cK, oPow, pow18, e, oDo]
  have s1 : sSet 1 (cCall (g_law_mix a) (aCons (cVar 0) (aCons (cK (.int 1)) aNil))) (.d (.scr ns) :: List.replicate 9 .u) [] = .nx [.d (.scr ns), .d (.ptr 1), .u, .u, .u, .u, .u, .u, .u, .u] [.lst (ns.map D.int), .lst [.int m, .ptr 0, .int 0]] := by
    simp [sSet, cCall, cApp, aCons, aNil, cVar, slotD, cK, em, oDo]
  have s2 : sFor (CL.iRange1 (cK (.int 6))) (gN 2) (lawBody a) [.d (.scr ns), .d (.ptr 1), .u, .u, .u, .u, .u, .u, .u, .u] [.lst (ns.map D.int), .lst [.int m, .ptr 0, .int 0]] = .nx z' S' := by
    have i6 : in62 6 = true := by decide +kernel
    unfold sFor
    have : CL.iRange1 (cK (.int 6)) [.d (.scr ns), .d (.ptr 1), .u, .u, .u, .u, .u, .u, .u, .u] [.lst (ns.map D.int), .lst [.int m, .ptr 0, .int 0]] = .ok ((List.range 6).map fun (k : Nat) => D.int (0 + (k : Int))) [.lst (ns.map D.int), .lst [.int m, .ptr 0, .int 0]] := by
      simp [CL.iRange1, cK, i6]
    rw [this]
    exact e
  show (match c_law a (.d (.scr ns) :: List.replicate 9 .u) [] with | .nx _ S' => _ | .rt d S' => _ | .exc x _ S' => _ | _ => _) = _
  have whole : c_law a (.d (.scr ns) :: List.replicate 9 .u) [] = .rt (.bl true) S' := by
    show sSeq _ (sSeq (sFor _ _ (lawBody a)) _) _ _ = _
    rw [seq_nx s1, seq_nx s2]
    exact fin z' S'
  rw [whole]
end
end Law
namespace Law
open PySem PySem.Spec PyProof.Rows L2 CL
section
variable [TheK]
theorem all_mk {l : PySem.W.OpenLaw} {w : World} {mg : Str → Option Value} {fa : Addr} {h : Heap} (KX : TheK.K.In h) (G : h.Ns mainGlobals mg) (hfa : mg "law" = some (.ref fa)) (own : LamX.OwnTab TheK.K fa h)
    {C_InvalidTrips : Addr}
    {C_InvalidText : Addr}
    {C_InvalidTown : Addr}
    {C_InvalidLoad : Addr}
    {C_InvalidLife : Addr}
    {C_InvalidCount : Addr}
    {C_UnknownKind : Addr}
    {C_UnknownBridge : Addr}
    {C_UnknownPlace : Addr}
    {C_Contradiction : Addr}
    {C_DifferentTowns : Addr}
    {C_TooManyBridges : Addr}
    {C_BridgeError : Addr}
    {C_Town : Addr}
    {f_law_mix : Addr} {od_law_mix an_law_mix : Option Addr} {sl_law_mix : Array (Option Value)} {oc_law_mix kV_law_mix dc_law_mix pm_law_mix cd_law_mix ct_law_mix : Value}
    {f_law_next : Addr} {od_law_next an_law_next : Option Addr} {sl_law_next : Array (Option Value)} {oc_law_next kV_law_next dc_law_next pm_law_next cd_law_next ct_law_next : Value}
    {f_law_life : Addr} {od_law_life an_law_life : Option Addr} {sl_law_life : Array (Option Value)} {oc_law_life kV_law_life dc_law_life pm_law_life cd_law_life ct_law_life : Value}
    {f_law_links : Addr} {od_law_links an_law_links : Option Addr} {sl_law_links : Array (Option Value)} {oc_law_links kV_law_links dc_law_links pm_law_links cd_law_links ct_law_links : Value}
    {f_law_spoilt : Addr} {od_law_spoilt an_law_spoilt : Option Addr} {sl_law_spoilt : Array (Option Value)} {oc_law_spoilt kV_law_spoilt dc_law_spoilt pm_law_spoilt cd_law_spoilt ct_law_spoilt : Value}
    {f_law_is_link : Addr} {od_law_is_link an_law_is_link : Option Addr} {sl_law_is_link : Array (Option Value)} {oc_law_is_link kV_law_is_link dc_law_is_link pm_law_is_link cd_law_is_link ct_law_is_link : Value}
    {f_law_first_bad : Addr} {od_law_first_bad an_law_first_bad : Option Addr} {sl_law_first_bad : Array (Option Value)} {oc_law_first_bad kV_law_first_bad dc_law_first_bad pm_law_first_bad cd_law_first_bad ct_law_first_bad : Value}
    {f_law_error : Addr} {od_law_error an_law_error : Option Addr} {sl_law_error : Array (Option Value)} {oc_law_error kV_law_error dc_law_error pm_law_error cd_law_error ct_law_error : Value}
    {f_Town_is_bridge : Addr} {od_Town_is_bridge an_Town_is_bridge : Option Addr} {sl_Town_is_bridge : Array (Option Value)} {oc_Town_is_bridge kV_Town_is_bridge dc_Town_is_bridge pm_Town_is_bridge cd_Town_is_bridge ct_Town_is_bridge : Value}
    {f_Town__init : Addr} {od_Town__init an_Town__init : Option Addr} {sl_Town__init : Array (Option Value)} {oc_Town__init kV_Town__init dc_Town__init pm_Town__init cd_Town__init ct_Town__init : Value}
    {f_law_alike : Addr} {od_law_alike an_law_alike : Option Addr} {sl_law_alike : Array (Option Value)} {oc_law_alike kV_law_alike dc_law_alike pm_law_alike cd_law_alike ct_law_alike : Value}
    {f_Town_bridges : Addr} {od_Town_bridges an_Town_bridges : Option Addr} {sl_Town_bridges : Array (Option Value)} {oc_Town_bridges kV_Town_bridges dc_Town_bridges pm_Town_bridges cd_Town_bridges ct_Town_bridges : Value}
    {f_Town_place_count : Addr} {od_Town_place_count an_Town_place_count : Option Addr} {sl_Town_place_count : Array (Option Value)} {oc_Town_place_count kV_Town_place_count dc_Town_place_count pm_Town_place_count cd_Town_place_count ct_Town_place_count : Value}
    {f_Town_lives : Addr} {od_Town_lives an_Town_lives : Option Addr} {sl_Town_lives : Array (Option Value)} {oc_Town_lives kV_Town_lives dc_Town_lives pm_Town_lives cd_Town_lives ct_Town_lives : Value}
    {f_law : Addr} {od_law an_law : Option Addr} {sl_law : Array (Option Value)} {oc_law kV_law dc_law pm_law cd_law ct_law : Value}
    {w_Town_MAX_PLACES : Tok}
    {w_Town_MAX_LIFE : Tok}
    {w_Town_MAX_BRIDGES : Tok}
    {p_Town_is_bridge : Addr} {rs_Town_is_bridge : List Value}
    {a_Town_bridges : Addr} {rp_Town_bridges : List Value}
    {a_Town_place_count : Addr} {rp_Town_place_count : List Value}
    {a_Town_lives : Addr} {rp_Town_lives : List Value}
    {t_MAX_LENGTH : Tok}
    {f_InvalidTown__init : Addr} {od_InvalidTown__init an_InvalidTown__init : Option Addr} {sl_InvalidTown__init : Array (Option Value)} {oc_InvalidTown__init kV_InvalidTown__init dc_InvalidTown__init pm_InvalidTown__init cd_InvalidTown__init ct_InvalidTown__init : Value}
    {nm_InvalidTown qn_InvalidTown : Str} {N_InvalidTown : Addr} {bs_InvalidTown bm_InvalidTown : List Value} {sn_InvalidTown : List Str} {su_InvalidTown : List Value} {ab_InvalidTown : Bool} {co_InvalidTown : Option Bool} {dd_InvalidTown : Option Addr} {ka_InvalidTown kb_InvalidTown ke_InvalidTown kf_InvalidTown kg_InvalidTown : Option Value}
    {lc lP : Addr} {lod : Option Addr} {lvs : Array Value} {lsl : Array (Option Value)} {lfile : Str} {lfl : Int} {lin : Bool} {ltx : Int} {ltf ltg ltt : Tok}
    (aC_InvalidTrips : PySem.W.nsIn TheK.K mainGlobals ("InvalidTrips" : Str) = some (some (.ref C_InvalidTrips)))
    (aC_InvalidText : PySem.W.nsIn TheK.K mainGlobals ("InvalidText" : Str) = some (some (.ref C_InvalidText)))
    (aC_InvalidTown : PySem.W.nsIn TheK.K mainGlobals ("InvalidTown" : Str) = some (some (.ref C_InvalidTown)))
    (aC_InvalidLoad : PySem.W.nsIn TheK.K mainGlobals ("InvalidLoad" : Str) = some (some (.ref C_InvalidLoad)))
    (aC_InvalidLife : PySem.W.nsIn TheK.K mainGlobals ("InvalidLife" : Str) = some (some (.ref C_InvalidLife)))
    (aC_InvalidCount : PySem.W.nsIn TheK.K mainGlobals ("InvalidCount" : Str) = some (some (.ref C_InvalidCount)))
    (aC_UnknownKind : PySem.W.nsIn TheK.K mainGlobals ("UnknownKind" : Str) = some (some (.ref C_UnknownKind)))
    (aC_UnknownBridge : PySem.W.nsIn TheK.K mainGlobals ("UnknownBridge" : Str) = some (some (.ref C_UnknownBridge)))
    (aC_UnknownPlace : PySem.W.nsIn TheK.K mainGlobals ("UnknownPlace" : Str) = some (some (.ref C_UnknownPlace)))
    (aC_Contradiction : PySem.W.nsIn TheK.K mainGlobals ("Contradiction" : Str) = some (some (.ref C_Contradiction)))
    (aC_DifferentTowns : PySem.W.nsIn TheK.K mainGlobals ("DifferentTowns" : Str) = some (some (.ref C_DifferentTowns)))
    (aC_TooManyBridges : PySem.W.nsIn TheK.K mainGlobals ("TooManyBridges" : Str) = some (some (.ref C_TooManyBridges)))
    (aC_BridgeError : PySem.W.nsIn TheK.K mainGlobals ("BridgeError" : Str) = some (some (.ref C_BridgeError)))
    (aC_Town : PySem.W.nsIn TheK.K mainGlobals ("Town" : Str) = some (some (.ref C_Town)))
    (a_law_mix : PySem.W.nsIn TheK.K mainGlobals ("_law_mix" : Str) = some (some (.ref f_law_mix)))
    (l_law_mix : TheK.K.lookup f_law_mix = some ⟨oc_law_mix, od_law_mix, .func (PySem.W.fnOf ("_law_mix" : Str) ("_law_mix" : Str) (defArgs (top 21)) (defBody (top 21)) (defScope (top 21)) .none kV_law_mix dc_law_mix pm_law_mix an_law_mix cd_law_mix ct_law_mix), sl_law_mix⟩)
    (c_law_mix : PySem.W.codeIn TheK.K cd_law_mix ("_law_mix" : Str) = true)
    (k_law_mix : PySem.W.keepIn TheK.K (.ref f_law_mix) = true)
    (a_law_next : PySem.W.nsIn TheK.K mainGlobals ("_law_next" : Str) = some (some (.ref f_law_next)))
    (l_law_next : TheK.K.lookup f_law_next = some ⟨oc_law_next, od_law_next, .func (PySem.W.fnOf ("_law_next" : Str) ("_law_next" : Str) (defArgs (top 22)) (defBody (top 22)) (defScope (top 22)) .none kV_law_next dc_law_next pm_law_next an_law_next cd_law_next ct_law_next), sl_law_next⟩)
    (c_law_next : PySem.W.codeIn TheK.K cd_law_next ("_law_next" : Str) = true)
    (k_law_next : PySem.W.keepIn TheK.K (.ref f_law_next) = true)
    (a_law_life : PySem.W.nsIn TheK.K mainGlobals ("_law_life" : Str) = some (some (.ref f_law_life)))
    (l_law_life : TheK.K.lookup f_law_life = some ⟨oc_law_life, od_law_life, .func (PySem.W.fnOf ("_law_life" : Str) ("_law_life" : Str) (defArgs (top 25)) (defBody (top 25)) (defScope (top 25)) .none kV_law_life dc_law_life pm_law_life an_law_life cd_law_life ct_law_life), sl_law_life⟩)
    (c_law_life : PySem.W.codeIn TheK.K cd_law_life ("_law_life" : Str) = true)
    (k_law_life : PySem.W.keepIn TheK.K (.ref f_law_life) = true)
    (a_law_links : PySem.W.nsIn TheK.K mainGlobals ("_law_links" : Str) = some (some (.ref f_law_links)))
    (l_law_links : TheK.K.lookup f_law_links = some ⟨oc_law_links, od_law_links, .func (PySem.W.fnOf ("_law_links" : Str) ("_law_links" : Str) (defArgs (top 26)) (defBody (top 26)) (defScope (top 26)) .none kV_law_links dc_law_links pm_law_links an_law_links cd_law_links ct_law_links), sl_law_links⟩)
    (c_law_links : PySem.W.codeIn TheK.K cd_law_links ("_law_links" : Str) = true)
    (k_law_links : PySem.W.keepIn TheK.K (.ref f_law_links) = true)
    (a_law_spoilt : PySem.W.nsIn TheK.K mainGlobals ("_law_spoilt" : Str) = some (some (.ref f_law_spoilt)))
    (l_law_spoilt : TheK.K.lookup f_law_spoilt = some ⟨oc_law_spoilt, od_law_spoilt, .func (PySem.W.fnOf ("_law_spoilt" : Str) ("_law_spoilt" : Str) (defArgs (top 30)) (defBody (top 30)) (defScope (top 30)) .none kV_law_spoilt dc_law_spoilt pm_law_spoilt an_law_spoilt cd_law_spoilt ct_law_spoilt), sl_law_spoilt⟩)
    (c_law_spoilt : PySem.W.codeIn TheK.K cd_law_spoilt ("_law_spoilt" : Str) = true)
    (k_law_spoilt : PySem.W.keepIn TheK.K (.ref f_law_spoilt) = true)
    (a_law_is_link : PySem.W.nsIn TheK.K mainGlobals ("_law_is_link" : Str) = some (some (.ref f_law_is_link)))
    (l_law_is_link : TheK.K.lookup f_law_is_link = some ⟨oc_law_is_link, od_law_is_link, .func (PySem.W.fnOf ("_law_is_link" : Str) ("_law_is_link" : Str) (defArgs (top 28)) (defBody (top 28)) (defScope (top 28)) .none kV_law_is_link dc_law_is_link pm_law_is_link an_law_is_link cd_law_is_link ct_law_is_link), sl_law_is_link⟩)
    (c_law_is_link : PySem.W.codeIn TheK.K cd_law_is_link ("_law_is_link" : Str) = true)
    (k_law_is_link : PySem.W.keepIn TheK.K (.ref f_law_is_link) = true)
    (a_law_first_bad : PySem.W.nsIn TheK.K mainGlobals ("_law_first_bad" : Str) = some (some (.ref f_law_first_bad)))
    (l_law_first_bad : TheK.K.lookup f_law_first_bad = some ⟨oc_law_first_bad, od_law_first_bad, .func (PySem.W.fnOf ("_law_first_bad" : Str) ("_law_first_bad" : Str) (defArgs (top 29)) (defBody (top 29)) (defScope (top 29)) .none kV_law_first_bad dc_law_first_bad pm_law_first_bad an_law_first_bad cd_law_first_bad ct_law_first_bad), sl_law_first_bad⟩)
    (c_law_first_bad : PySem.W.codeIn TheK.K cd_law_first_bad ("_law_first_bad" : Str) = true)
    (k_law_first_bad : PySem.W.keepIn TheK.K (.ref f_law_first_bad) = true)
    (a_law_error : PySem.W.nsIn TheK.K mainGlobals ("_law_error" : Str) = some (some (.ref f_law_error)))
    (l_law_error : TheK.K.lookup f_law_error = some ⟨oc_law_error, od_law_error, .func (PySem.W.fnOf ("_law_error" : Str) ("_law_error" : Str) (defArgs (top 24)) (defBody (top 24)) (defScope (top 24)) .none kV_law_error dc_law_error pm_law_error an_law_error cd_law_error ct_law_error), sl_law_error⟩)
    (c_law_error : PySem.W.codeIn TheK.K cd_law_error ("_law_error" : Str) = true)
    (k_law_error : PySem.W.keepIn TheK.K (.ref f_law_error) = true)
    (l_Town_is_bridge : TheK.K.lookup f_Town_is_bridge = some ⟨oc_Town_is_bridge, od_Town_is_bridge, .func (PySem.W.fnOf ("is_bridge" : Str) ("Town.is_bridge" : Str) (defArgs (inClass (top 19) 4)) (defBody (inClass (top 19) 4)) (defScope (inClass (top 19) 4)) .none kV_Town_is_bridge dc_Town_is_bridge pm_Town_is_bridge an_Town_is_bridge cd_Town_is_bridge ct_Town_is_bridge), sl_Town_is_bridge⟩)
    (c_Town_is_bridge : PySem.W.codeIn TheK.K cd_Town_is_bridge ("Town.is_bridge" : Str) = true)
    (k_Town_is_bridge : PySem.W.keepIn TheK.K (.ref f_Town_is_bridge) = true)
    (l_Town__init : TheK.K.lookup f_Town__init = some ⟨oc_Town__init, od_Town__init, .func (PySem.W.fnOf ("__init__" : Str) ("Town.__init__" : Str) (defArgs (inClass (top 19) 3)) (defBody (inClass (top 19) 3)) (defScope (inClass (top 19) 3)) .none kV_Town__init dc_Town__init pm_Town__init an_Town__init cd_Town__init ct_Town__init), sl_Town__init⟩)
    (c_Town__init : PySem.W.codeIn TheK.K cd_Town__init ("Town.__init__" : Str) = true)
    (k_Town__init : PySem.W.keepIn TheK.K (.ref f_Town__init) = true)
    (at_Town__init : PySem.W.findIn TheK.K (.ref C_Town) "__init__" = some (some (.ref f_Town__init)))
    (fn_Town__init : PySem.W.isFn TheK.K (.ref f_Town__init) = true)
    (a_law_alike : PySem.W.nsIn TheK.K mainGlobals ("_law_alike" : Str) = some (some (.ref f_law_alike)))
    (l_law_alike : TheK.K.lookup f_law_alike = some ⟨oc_law_alike, od_law_alike, .func (PySem.W.fnOf ("_law_alike" : Str) ("_law_alike" : Str) (defArgs (top 23)) (defBody (top 23)) (defScope (top 23)) .none kV_law_alike dc_law_alike pm_law_alike an_law_alike cd_law_alike ct_law_alike), sl_law_alike⟩)
    (c_law_alike : PySem.W.codeIn TheK.K cd_law_alike ("_law_alike" : Str) = true)
    (k_law_alike : PySem.W.keepIn TheK.K (.ref f_law_alike) = true)
    (l_Town_bridges : TheK.K.lookup f_Town_bridges = some ⟨oc_Town_bridges, od_Town_bridges, .func (PySem.W.fnOf ("bridges" : Str) ("Town.bridges" : Str) (defArgs (inClass (top 19) 7)) (defBody (inClass (top 19) 7)) (defScope (inClass (top 19) 7)) .none kV_Town_bridges dc_Town_bridges pm_Town_bridges an_Town_bridges cd_Town_bridges ct_Town_bridges), sl_Town_bridges⟩)
    (c_Town_bridges : PySem.W.codeIn TheK.K cd_Town_bridges ("Town.bridges" : Str) = true)
    (k_Town_bridges : PySem.W.keepIn TheK.K (.ref f_Town_bridges) = true)
    (l_Town_place_count : TheK.K.lookup f_Town_place_count = some ⟨oc_Town_place_count, od_Town_place_count, .func (PySem.W.fnOf ("place_count" : Str) ("Town.place_count" : Str) (defArgs (inClass (top 19) 6)) (defBody (inClass (top 19) 6)) (defScope (inClass (top 19) 6)) .none kV_Town_place_count dc_Town_place_count pm_Town_place_count an_Town_place_count cd_Town_place_count ct_Town_place_count), sl_Town_place_count⟩)
    (c_Town_place_count : PySem.W.codeIn TheK.K cd_Town_place_count ("Town.place_count" : Str) = true)
    (k_Town_place_count : PySem.W.keepIn TheK.K (.ref f_Town_place_count) = true)
    (l_Town_lives : TheK.K.lookup f_Town_lives = some ⟨oc_Town_lives, od_Town_lives, .func (PySem.W.fnOf ("lives" : Str) ("Town.lives" : Str) (defArgs (inClass (top 19) 8)) (defBody (inClass (top 19) 8)) (defScope (inClass (top 19) 8)) .none kV_Town_lives dc_Town_lives pm_Town_lives an_Town_lives cd_Town_lives ct_Town_lives), sl_Town_lives⟩)
    (c_Town_lives : PySem.W.codeIn TheK.K cd_Town_lives ("Town.lives" : Str) = true)
    (k_Town_lives : PySem.W.keepIn TheK.K (.ref f_Town_lives) = true)
    (a_law : PySem.W.nsIn TheK.K mainGlobals ("law" : Str) = some (some (.ref f_law)))
    (l_law : TheK.K.lookup f_law = some ⟨oc_law, od_law, .func (PySem.W.fnOf ("law" : Str) ("law" : Str) (defArgs (top 31)) (defBody (top 31)) (defScope (top 31)) .none kV_law dc_law pm_law an_law cd_law ct_law), sl_law⟩)
    (c_law : PySem.W.codeIn TheK.K cd_law ("law" : Str) = true)
    (k_law : PySem.W.keepIn TheK.K (.ref f_law) = true)
    (rd_Town : PySem.W.readsIn TheK.K C_Town (.type "type") = true)
    (ga_Town : PySem.W.specialIn TheK.K (.ref C_Town) "__getattribute__" = some (some (.builtin "type.__getattribute__")))
    (rd_BridgeError : PySem.W.readsIn TheK.K C_BridgeError (.type "type") = true)
    (ga_BridgeError : PySem.W.specialIn TheK.K (.ref C_BridgeError) "__getattribute__" = some (some (.builtin "type.__getattribute__")))
    (cv_Town_MAX_PLACES : PySem.W.findCls TheK.K (.ref C_Town) (.type "type") ("MAX_PLACES" : Str) = some (.val (.int 12 w_Town_MAX_PLACES)))
    (cv_Town_MAX_LIFE : PySem.W.findCls TheK.K (.ref C_Town) (.type "type") ("MAX_LIFE" : Str) = some (.val (.int 1000000000000000000 w_Town_MAX_LIFE)))
    (cv_Town_MAX_BRIDGES : PySem.W.findCls TheK.K (.ref C_Town) (.type "type") ("MAX_BRIDGES" : Str) = some (.val (.int 24 w_Town_MAX_BRIDGES)))
    (sa_Town_is_bridge : PySem.W.findCls TheK.K (.ref C_Town) (.type "type") ("is_bridge" : Str) = some (.get (.builtin "staticmethod.__get__") (.ref p_Town_is_bridge) .none (.ref C_Town)))
    (sr_Town_is_bridge : PySem.W.recIn TheK.K p_Town_is_bridge "staticmethod" = some (.ref f_Town_is_bridge :: rs_Town_is_bridge))
    (pg_Town : PySem.W.plainGet TheK.K C_Town Str.empty = true)
    (hd_Town : PySem.W.hasDictIn TheK.K C_Town = true)
    (po_Town : PySem.W.plainOver TheK.K C_Town = true)
    (st_Town : PySem.W.findIn TheK.K (.ref C_Town) "__setattr__" = some (some (.builtin "object.__setattr__")))
    (mk_Town : PySem.W.makesIn TheK.K C_Town = true)
    (kc_Town : PySem.W.keepIn TheK.K (.ref C_Town) = true)
    (na_InvalidTown_index : PySem.W.findIn TheK.K (.ref C_InvalidTown) ("index" : Str) = some none)
    (na_InvalidTown_part : PySem.W.findIn TheK.K (.ref C_InvalidTown) ("part" : Str) = some none)
    (na_InvalidText_row : PySem.W.findIn TheK.K (.ref C_InvalidText) ("row" : Str) = some none)
    (na_InvalidTrips_index : PySem.W.findIn TheK.K (.ref C_InvalidTrips) ("index" : Str) = some none)
    (na_Town_size : PySem.W.findIn TheK.K (.ref C_Town) ("size" : Str) = some none)
    (na_Town_links : PySem.W.findIn TheK.K (.ref C_Town) ("links" : Str) = some none)
    (xg_InvalidTown : PySem.W.findIn TheK.K (.ref C_InvalidTown) "__getattribute__" = some (some (.builtin "BaseException.__getattribute__")))
    (xh_InvalidTown : PySem.W.findIn TheK.K (.ref C_InvalidTown) "__getattr__" = some none)
    (xg_InvalidText : PySem.W.findIn TheK.K (.ref C_InvalidText) "__getattribute__" = some (some (.builtin "BaseException.__getattribute__")))
    (xh_InvalidText : PySem.W.findIn TheK.K (.ref C_InvalidText) "__getattr__" = some none)
    (xg_InvalidTrips : PySem.W.findIn TheK.K (.ref C_InvalidTrips) "__getattribute__" = some (some (.builtin "BaseException.__getattribute__")))
    (xh_InvalidTrips : PySem.W.findIn TheK.K (.ref C_InvalidTrips) "__getattr__" = some none)
    (xb_InvalidTown : PySem.W.subIn TheK.K (.ref C_InvalidTown) (.type "BaseException") = some true)
    (xd_InvalidTown : PySem.W.hasDictIn TheK.K C_InvalidTown = true)
    (xt_InvalidTown : PySem.W.typeIn TheK.K (.ref C_InvalidTown) = some (.type "type"))
    (xb_InvalidText : PySem.W.subIn TheK.K (.ref C_InvalidText) (.type "BaseException") = some true)
    (xd_InvalidText : PySem.W.hasDictIn TheK.K C_InvalidText = true)
    (xt_InvalidText : PySem.W.typeIn TheK.K (.ref C_InvalidText) = some (.type "type"))
    (xb_InvalidTrips : PySem.W.subIn TheK.K (.ref C_InvalidTrips) (.type "BaseException") = some true)
    (xd_InvalidTrips : PySem.W.hasDictIn TheK.K C_InvalidTrips = true)
    (xt_InvalidTrips : PySem.W.typeIn TheK.K (.ref C_InvalidTrips) = some (.type "type"))
    (xb_InvalidCount : PySem.W.subIn TheK.K (.ref C_InvalidCount) (.type "BaseException") = some true)
    (xd_InvalidCount : PySem.W.hasDictIn TheK.K C_InvalidCount = true)
    (xt_InvalidCount : PySem.W.typeIn TheK.K (.ref C_InvalidCount) = some (.type "type"))
    (xb_InvalidLife : PySem.W.subIn TheK.K (.ref C_InvalidLife) (.type "BaseException") = some true)
    (xd_InvalidLife : PySem.W.hasDictIn TheK.K C_InvalidLife = true)
    (xt_InvalidLife : PySem.W.typeIn TheK.K (.ref C_InvalidLife) = some (.type "type"))
    (xb_InvalidLoad : PySem.W.subIn TheK.K (.ref C_InvalidLoad) (.type "BaseException") = some true)
    (xd_InvalidLoad : PySem.W.hasDictIn TheK.K C_InvalidLoad = true)
    (xt_InvalidLoad : PySem.W.typeIn TheK.K (.ref C_InvalidLoad) = some (.type "type"))
    (xb_UnknownPlace : PySem.W.subIn TheK.K (.ref C_UnknownPlace) (.type "BaseException") = some true)
    (xd_UnknownPlace : PySem.W.hasDictIn TheK.K C_UnknownPlace = true)
    (xt_UnknownPlace : PySem.W.typeIn TheK.K (.ref C_UnknownPlace) = some (.type "type"))
    (xb_UnknownBridge : PySem.W.subIn TheK.K (.ref C_UnknownBridge) (.type "BaseException") = some true)
    (xd_UnknownBridge : PySem.W.hasDictIn TheK.K C_UnknownBridge = true)
    (xt_UnknownBridge : PySem.W.typeIn TheK.K (.ref C_UnknownBridge) = some (.type "type"))
    (xb_UnknownKind : PySem.W.subIn TheK.K (.ref C_UnknownKind) (.type "BaseException") = some true)
    (xd_UnknownKind : PySem.W.hasDictIn TheK.K C_UnknownKind = true)
    (xt_UnknownKind : PySem.W.typeIn TheK.K (.ref C_UnknownKind) = some (.type "type"))
    (xb_TooManyBridges : PySem.W.subIn TheK.K (.ref C_TooManyBridges) (.type "BaseException") = some true)
    (xd_TooManyBridges : PySem.W.hasDictIn TheK.K C_TooManyBridges = true)
    (xt_TooManyBridges : PySem.W.typeIn TheK.K (.ref C_TooManyBridges) = some (.type "type"))
    (xb_DifferentTowns : PySem.W.subIn TheK.K (.ref C_DifferentTowns) (.type "BaseException") = some true)
    (xd_DifferentTowns : PySem.W.hasDictIn TheK.K C_DifferentTowns = true)
    (xt_DifferentTowns : PySem.W.typeIn TheK.K (.ref C_DifferentTowns) = some (.type "type"))
    (xb_Contradiction : PySem.W.subIn TheK.K (.ref C_Contradiction) (.type "BaseException") = some true)
    (xd_Contradiction : PySem.W.hasDictIn TheK.K C_Contradiction = true)
    (xt_Contradiction : PySem.W.typeIn TheK.K (.ref C_Contradiction) = some (.type "type"))
    (xb_BridgeError : PySem.W.subIn TheK.K (.ref C_BridgeError) (.type "BaseException") = some true)
    (xd_BridgeError : PySem.W.hasDictIn TheK.K C_BridgeError = true)
    (xt_BridgeError : PySem.W.typeIn TheK.K (.ref C_BridgeError) = some (.type "type"))
    (pa_Town_bridges : PySem.W.findIn TheK.K (.ref C_Town) ("bridges" : Str) = some (some (.ref a_Town_bridges)))
    (pb_Town_bridges : PySem.W.specialIn TheK.K (.ref a_Town_bridges) "__get__" = some (some (.builtin "property.__get__")))
    (pc_Town_bridges : PySem.W.takesIn TheK.K (.ref a_Town_bridges) = some true)
    (pd_Town_bridges : PySem.W.recIn TheK.K a_Town_bridges "property" = some (.ref f_Town_bridges :: rp_Town_bridges))
    (pa_Town_place_count : PySem.W.findIn TheK.K (.ref C_Town) ("place_count" : Str) = some (some (.ref a_Town_place_count)))
    (pb_Town_place_count : PySem.W.specialIn TheK.K (.ref a_Town_place_count) "__get__" = some (some (.builtin "property.__get__")))
    (pc_Town_place_count : PySem.W.takesIn TheK.K (.ref a_Town_place_count) = some true)
    (pd_Town_place_count : PySem.W.recIn TheK.K a_Town_place_count "property" = some (.ref f_Town_place_count :: rp_Town_place_count))
    (pa_Town_lives : PySem.W.findIn TheK.K (.ref C_Town) ("lives" : Str) = some (some (.ref a_Town_lives)))
    (pb_Town_lives : PySem.W.specialIn TheK.K (.ref a_Town_lives) "__get__" = some (some (.builtin "property.__get__")))
    (pc_Town_lives : PySem.W.takesIn TheK.K (.ref a_Town_lives) = some true)
    (pd_Town_lives : PySem.W.recIn TheK.K a_Town_lives "property" = some (.ref f_Town_lives :: rp_Town_lives))
    (g_MAX_LENGTH : PySem.W.nsIn TheK.K mainGlobals ("MAX_LENGTH" : Str) = some (some (.int 99 t_MAX_LENGTH)))
    (z_list : PySem.W.nsIn TheK.K mainGlobals ("list" : Str) = some none)
    (z_range : PySem.W.nsIn TheK.K mainGlobals ("range" : Str) = some none)
    (z_int : PySem.W.nsIn TheK.K mainGlobals ("int" : Str) = some none)
    (z_max : PySem.W.nsIn TheK.K mainGlobals ("max" : Str) = some none)
    (z_len : PySem.W.nsIn TheK.K mainGlobals ("len" : Str) = some none)
    (z_tuple : PySem.W.nsIn TheK.K mainGlobals ("tuple" : Str) = some none)
    (z_isinstance : PySem.W.nsIn TheK.K mainGlobals ("isinstance" : Str) = some none)
    (z_ValueError : PySem.W.nsIn TheK.K mainGlobals ("ValueError" : Str) = some none)
    (z_enumerate : PySem.W.nsIn TheK.K mainGlobals ("enumerate" : Str) = some none)
    (z_dict : PySem.W.nsIn TheK.K mainGlobals ("dict" : Str) = some none)
    (z_str : PySem.W.nsIn TheK.K mainGlobals ("str" : Str) = some none)
    (z_bool : PySem.W.nsIn TheK.K mainGlobals ("bool" : Str) = some none)
    (bi_BridgeError : PySem.W.findCls TheK.K (.ref C_BridgeError) (.type "type") "__init__" = some (.val (.builtin "ValueError.__init__")))
    (kc_InvalidTown : PySem.W.keepIn TheK.K (.ref C_InvalidTown) = true)
    (l_InvalidTown__init : TheK.K.lookup f_InvalidTown__init = some ⟨oc_InvalidTown__init, od_InvalidTown__init, .func (PySem.W.fnOf ("__init__" : Str) ("InvalidTown.__init__" : Str) (defArgs (inClass (top 3) 0)) (defBody (inClass (top 3) 0)) (defScope (inClass (top 3) 0)) .none kV_InvalidTown__init dc_InvalidTown__init pm_InvalidTown__init an_InvalidTown__init cd_InvalidTown__init ct_InvalidTown__init), sl_InvalidTown__init⟩)
    (c_InvalidTown__init : PySem.W.codeIn TheK.K cd_InvalidTown__init ("InvalidTown.__init__" : Str) = true)
    (k_InvalidTown__init : PySem.W.keepIn TheK.K (.ref f_InvalidTown__init) = true)
    (at_InvalidTown__init : PySem.W.findIn TheK.K (.ref C_InvalidTown) "__init__" = some (some (.ref f_InvalidTown__init)))
    (ty_InvalidTown__init : PySem.W.typeIn TheK.K (.ref f_InvalidTown__init) = some (.type "function"))
    (sa_InvalidTown : PySem.W.findIn TheK.K (.ref C_InvalidTown) "__setattr__" = some (some (.builtin "object.__setattr__")))
    (ox_InvalidTown : TheK.K.lookup C_InvalidTown = some (excClassObj nm_InvalidTown qn_InvalidTown C_InvalidTown N_InvalidTown bs_InvalidTown bm_InvalidTown true sn_InvalidTown su_InvalidTown ab_InvalidTown co_InvalidTown dd_InvalidTown ka_InvalidTown kb_InvalidTown ke_InvalidTown kf_InvalidTown kg_InvalidTown "ValueError.__new__"))
    (bm_InvalidTown : PySem.HandSPX.refsVE bm_InvalidTown = true)
    (xa_InvalidTown : PySem.W.findIn TheK.K (.ref C_InvalidTown) "__class__" = some (some (.builtin "object.__class__")))
    (xm_InvalidTown : PySem.W.mroIn TheK.K C_InvalidTown (.type "object") = some true)
    (ss_InvalidTown_InvalidTown : PySem.W.subIn TheK.K (.ref C_InvalidTown) (.ref C_InvalidTown) = some true)
    (ss_InvalidTown_InvalidText : PySem.W.subIn TheK.K (.ref C_InvalidTown) (.ref C_InvalidText) = some false)
    (ss_InvalidTown_InvalidTrips : PySem.W.subIn TheK.K (.ref C_InvalidTown) (.ref C_InvalidTrips) = some false)
    (ss_InvalidTown_InvalidCount : PySem.W.subIn TheK.K (.ref C_InvalidTown) (.ref C_InvalidCount) = some false)
    (ss_InvalidTown_InvalidLife : PySem.W.subIn TheK.K (.ref C_InvalidTown) (.ref C_InvalidLife) = some false)
    (ss_InvalidTown_InvalidLoad : PySem.W.subIn TheK.K (.ref C_InvalidTown) (.ref C_InvalidLoad) = some false)
    (ss_InvalidTown_UnknownPlace : PySem.W.subIn TheK.K (.ref C_InvalidTown) (.ref C_UnknownPlace) = some false)
    (ss_InvalidTown_UnknownBridge : PySem.W.subIn TheK.K (.ref C_InvalidTown) (.ref C_UnknownBridge) = some false)
    (ss_InvalidTown_UnknownKind : PySem.W.subIn TheK.K (.ref C_InvalidTown) (.ref C_UnknownKind) = some false)
    (ss_InvalidTown_TooManyBridges : PySem.W.subIn TheK.K (.ref C_InvalidTown) (.ref C_TooManyBridges) = some false)
    (ss_InvalidTown_DifferentTowns : PySem.W.subIn TheK.K (.ref C_InvalidTown) (.ref C_DifferentTowns) = some false)
    (ss_InvalidTown_Contradiction : PySem.W.subIn TheK.K (.ref C_InvalidTown) (.ref C_Contradiction) = some false)
    (ss_InvalidTown_ValueError : PySem.W.subIn TheK.K (.ref C_InvalidTown) (.type "ValueError") = some true)
    (ss_InvalidTown_BridgeError : PySem.W.subIn TheK.K (.ref C_InvalidTown) (.ref C_BridgeError) = some true)
    (sp_get : PySem.W.specialIn TheK.K (.builtin "object.__class__") "__get__" = some (some (.builtin "getset_descriptor.__get__")))
    (sp_tak : PySem.W.takesIn TheK.K (.builtin "object.__class__") = some true)
    (hcd : cd_law = .ref lc)
    (lk : TheK.K.lookup lc = some ⟨.type "code", lod, .fields lvs, lsl⟩)
    (v11 : lvs[11]? = some (.ref lP))
    (w11 : lvs.getD 11 .none = .ref lP)
    (v18 : lvs.getD 18 .none = .str lfile ltf)
    (v7 : lvs.getD 7 .none = .int lfl ltg)
    (v9 : lvs.getD 9 .none = .bool lin)
    (v10 : lvs.getD 10 .none = .int ltx ltt)
    (nP : TheK.K.lookup lP = none) :
    LamX.LawAtS l w TheK.K (L2.CX l.prog w) 8 63 "_law_script" mg fa h := by
  have e : f_law = fa := Value.ref.inj (Option.some.inj ((PySem.W.mg_of KX G a_law).symm.trans hfa))
  subst e
  have X : Fx mg ({ f_law_mix := f_law_mix, d_law_mix := PySem.W.fnOf ("_law_mix" : Str) ("_law_mix" : Str) (defArgs (top 21)) (defBody (top 21)) (defScope (top 21)) .none kV_law_mix dc_law_mix pm_law_mix an_law_mix cd_law_mix ct_law_mix, f_law_next := f_law_next, d_law_next := PySem.W.fnOf ("_law_next" : Str) ("_law_next" : Str) (defArgs (top 22)) (defBody (top 22)) (defScope (top 22)) .none kV_law_next dc_law_next pm_law_next an_law_next cd_law_next ct_law_next, f_law_life := f_law_life, d_law_life := PySem.W.fnOf ("_law_life" : Str) ("_law_life" : Str) (defArgs (top 25)) (defBody (top 25)) (defScope (top 25)) .none kV_law_life dc_law_life pm_law_life an_law_life cd_law_life ct_law_life, f_law_links := f_law_links, d_law_links := PySem.W.fnOf ("_law_links" : Str) ("_law_links" : Str) (defArgs (top 26)) (defBody (top 26)) (defScope (top 26)) .none kV_law_links dc_law_links pm_law_links an_law_links cd_law_links ct_law_links, f_law_spoilt := f_law_spoilt, d_law_spoilt := PySem.W.fnOf ("_law_spoilt" : Str) ("_law_spoilt" : Str) (defArgs (top 30)) (defBody (top 30)) (defScope (top 30)) .none kV_law_spoilt dc_law_spoilt pm_law_spoilt an_law_spoilt cd_law_spoilt ct_law_spoilt, f_law_is_link := f_law_is_link, d_law_is_link := PySem.W.fnOf ("_law_is_link" : Str) ("_law_is_link" : Str) (defArgs (top 28)) (defBody (top 28)) (defScope (top 28)) .none kV_law_is_link dc_law_is_link pm_law_is_link an_law_is_link cd_law_is_link ct_law_is_link, f_law_first_bad := f_law_first_bad, d_law_first_bad := PySem.W.fnOf ("_law_first_bad" : Str) ("_law_first_bad" : Str) (defArgs (top 29)) (defBody (top 29)) (defScope (top 29)) .none kV_law_first_bad dc_law_first_bad pm_law_first_bad an_law_first_bad cd_law_first_bad ct_law_first_bad, f_law_error := f_law_error, d_law_error := PySem.W.fnOf ("_law_error" : Str) ("_law_error" : Str) (defArgs (top 24)) (defBody (top 24)) (defScope (top 24)) .none kV_law_error dc_law_error pm_law_error an_law_error cd_law_error ct_law_error, f_Town_is_bridge := f_Town_is_bridge, d_Town_is_bridge := PySem.W.fnOf ("is_bridge" : Str) ("Town.is_bridge" : Str) (defArgs (inClass (top 19) 4)) (defBody (inClass (top 19) 4)) (defScope (inClass (top 19) 4)) .none kV_Town_is_bridge dc_Town_is_bridge pm_Town_is_bridge an_Town_is_bridge cd_Town_is_bridge ct_Town_is_bridge, f_Town__init := f_Town__init, d_Town__init := PySem.W.fnOf ("__init__" : Str) ("Town.__init__" : Str) (defArgs (inClass (top 19) 3)) (defBody (inClass (top 19) 3)) (defScope (inClass (top 19) 3)) .none kV_Town__init dc_Town__init pm_Town__init an_Town__init cd_Town__init ct_Town__init, f_law_alike := f_law_alike, d_law_alike := PySem.W.fnOf ("_law_alike" : Str) ("_law_alike" : Str) (defArgs (top 23)) (defBody (top 23)) (defScope (top 23)) .none kV_law_alike dc_law_alike pm_law_alike an_law_alike cd_law_alike ct_law_alike, f_Town_bridges := f_Town_bridges, d_Town_bridges := PySem.W.fnOf ("bridges" : Str) ("Town.bridges" : Str) (defArgs (inClass (top 19) 7)) (defBody (inClass (top 19) 7)) (defScope (inClass (top 19) 7)) .none kV_Town_bridges dc_Town_bridges pm_Town_bridges an_Town_bridges cd_Town_bridges ct_Town_bridges, f_Town_place_count := f_Town_place_count, d_Town_place_count := PySem.W.fnOf ("place_count" : Str) ("Town.place_count" : Str) (defArgs (inClass (top 19) 6)) (defBody (inClass (top 19) 6)) (defScope (inClass (top 19) 6)) .none kV_Town_place_count dc_Town_place_count pm_Town_place_count an_Town_place_count cd_Town_place_count ct_Town_place_count, f_Town_lives := f_Town_lives, d_Town_lives := PySem.W.fnOf ("lives" : Str) ("Town.lives" : Str) (defArgs (inClass (top 19) 8)) (defBody (inClass (top 19) 8)) (defScope (inClass (top 19) 8)) .none kV_Town_lives dc_Town_lives pm_Town_lives an_Town_lives cd_Town_lives ct_Town_lives, f_law := f_law, d_law := PySem.W.fnOf ("law" : Str) ("law" : Str) (defArgs (top 31)) (defBody (top 31)) (defScope (top 31)) .none kV_law dc_law pm_law an_law cd_law ct_law, C_InvalidTrips := C_InvalidTrips, C_InvalidText := C_InvalidText, C_InvalidTown := C_InvalidTown, C_InvalidLoad := C_InvalidLoad, C_InvalidLife := C_InvalidLife, C_InvalidCount := C_InvalidCount, C_UnknownKind := C_UnknownKind, C_UnknownBridge := C_UnknownBridge, C_UnknownPlace := C_UnknownPlace, C_Contradiction := C_Contradiction, C_DifferentTowns := C_DifferentTowns, C_TooManyBridges := C_TooManyBridges, C_BridgeError := C_BridgeError, C_Town := C_Town, i_InvalidTown := f_InvalidTown__init, j_InvalidTown := PySem.W.fnOf ("__init__" : Str) ("InvalidTown.__init__" : Str) (defArgs (inClass (top 3) 0)) (defBody (inClass (top 3) 0)) (defScope (inClass (top 3) 0)) .none kV_InvalidTown__init dc_InvalidTown__init pm_InvalidTown__init an_InvalidTown__init cd_InvalidTown__init ct_InvalidTown__init, mc := .type "type", lc := lc, lP := lP, t_Town_MAX_PLACES := (.int 12 w_Town_MAX_PLACES), t_Town_MAX_LIFE := (.int 1000000000000000000 w_Town_MAX_LIFE), t_Town_MAX_BRIDGES := (.int 24 w_Town_MAX_BRIDGES), p_Town_is_bridge := p_Town_is_bridge, a_Town_bridges := a_Town_bridges, a_Town_place_count := a_Town_place_count, a_Town_lives := a_Town_lives, t_MAX_LENGTH := t_MAX_LENGTH : Ad }) := {
    F_law_mix := fun_mk (st := top 21) l_law_mix c_law_mix k_law_mix,
    b_law_mix := (fun_mk (st := top 21) l_law_mix c_law_mix k_law_mix).binds fun _ _ _ _ _ _ us hl => match us, hl with | [_, _], _ => rfl,
    m_law_mix := PySem.W.mg_of KX G a_law_mix,
    F_law_next := fun_mk (st := top 22) l_law_next c_law_next k_law_next,
    b_law_next := (fun_mk (st := top 22) l_law_next c_law_next k_law_next).binds fun _ _ _ _ _ _ us hl => match us, hl with | [_, _], _ => rfl,
    m_law_next := PySem.W.mg_of KX G a_law_next,
    F_law_life := fun_mk (st := top 25) l_law_life c_law_life k_law_life,
    b_law_life := (fun_mk (st := top 25) l_law_life c_law_life k_law_life).binds fun _ _ _ _ _ _ us hl => match us, hl with | [_, _], _ => rfl,
    m_law_life := PySem.W.mg_of KX G a_law_life,
    F_law_links := fun_mk (st := top 26) l_law_links c_law_links k_law_links,
    b_law_links := (fun_mk (st := top 26) l_law_links c_law_links k_law_links).binds fun _ _ _ _ _ _ us hl => match us, hl with | [_, _, _, _], _ => rfl,
    m_law_links := PySem.W.mg_of KX G a_law_links,
    F_law_spoilt := fun_mk (st := top 30) l_law_spoilt c_law_spoilt k_law_spoilt,
    b_law_spoilt := (fun_mk (st := top 30) l_law_spoilt c_law_spoilt k_law_spoilt).binds fun _ _ _ _ _ _ us hl => match us, hl with | [_, _, _], _ => rfl,
    m_law_spoilt := PySem.W.mg_of KX G a_law_spoilt,
    F_law_is_link := fun_mk (st := top 28) l_law_is_link c_law_is_link k_law_is_link,
    b_law_is_link := (fun_mk (st := top 28) l_law_is_link c_law_is_link k_law_is_link).binds fun _ _ _ _ _ _ us hl => match us, hl with | [_, _], _ => rfl,
    m_law_is_link := PySem.W.mg_of KX G a_law_is_link,
    F_law_first_bad := fun_mk (st := top 29) l_law_first_bad c_law_first_bad k_law_first_bad,
    b_law_first_bad := (fun_mk (st := top 29) l_law_first_bad c_law_first_bad k_law_first_bad).binds fun _ _ _ _ _ _ us hl => match us, hl with | [_, _], _ => rfl,
    m_law_first_bad := PySem.W.mg_of KX G a_law_first_bad,
    F_law_error := fun_mk (st := top 24) l_law_error c_law_error k_law_error,
    b_law_error := (fun_mk (st := top 24) l_law_error c_law_error k_law_error).binds fun _ _ _ _ _ _ us hl => match us, hl with | [_], _ => rfl,
    m_law_error := PySem.W.mg_of KX G a_law_error,
    F_Town_is_bridge := fun_mk (st := inClass (top 19) 4) l_Town_is_bridge c_Town_is_bridge k_Town_is_bridge,
    b_Town_is_bridge := (fun_mk (st := inClass (top 19) 4) l_Town_is_bridge c_Town_is_bridge k_Town_is_bridge).binds fun _ _ _ _ _ _ us hl => match us, hl with | [_, _], _ => rfl,
    F_Town__init := fun_mk (st := inClass (top 19) 3) l_Town__init c_Town__init k_Town__init,
    b_Town__init := (fun_mk (st := inClass (top 19) 3) l_Town__init c_Town__init k_Town__init).binds fun _ _ _ _ _ _ us hl => match us, hl with | [_, _, _], _ => rfl,
    F_law_alike := fun_mk (st := top 23) l_law_alike c_law_alike k_law_alike,
    b_law_alike := (fun_mk (st := top 23) l_law_alike c_law_alike k_law_alike).binds fun _ _ _ _ _ _ us hl => match us, hl with | [_, _], _ => rfl,
    m_law_alike := PySem.W.mg_of KX G a_law_alike,
    F_Town_bridges := fun_mk (st := inClass (top 19) 7) l_Town_bridges c_Town_bridges k_Town_bridges,
    b_Town_bridges := (fun_mk (st := inClass (top 19) 7) l_Town_bridges c_Town_bridges k_Town_bridges).binds fun _ _ _ _ _ _ us hl => match us, hl with | [_], _ => rfl,
    F_Town_place_count := fun_mk (st := inClass (top 19) 6) l_Town_place_count c_Town_place_count k_Town_place_count,
    b_Town_place_count := (fun_mk (st := inClass (top 19) 6) l_Town_place_count c_Town_place_count k_Town_place_count).binds fun _ _ _ _ _ _ us hl => match us, hl with | [_], _ => rfl,
    F_Town_lives := fun_mk (st := inClass (top 19) 8) l_Town_lives c_Town_lives k_Town_lives,
    b_Town_lives := (fun_mk (st := inClass (top 19) 8) l_Town_lives c_Town_lives k_Town_lives).binds fun _ _ _ _ _ _ us hl => match us, hl with | [_], _ => rfl,
    F_law := fun_mk (st := top 31) l_law c_law k_law,
    b_law := (fun_mk (st := top 31) l_law c_law k_law).binds fun _ _ _ _ _ _ us hl => match us, hl with | [_], _ => rfl,
    m_law := PySem.W.mg_of KX G a_law,
    m_InvalidTrips := PySem.W.mg_of KX G aC_InvalidTrips,
    m_InvalidText := PySem.W.mg_of KX G aC_InvalidText,
    m_InvalidTown := PySem.W.mg_of KX G aC_InvalidTown,
    m_InvalidLoad := PySem.W.mg_of KX G aC_InvalidLoad,
    m_InvalidLife := PySem.W.mg_of KX G aC_InvalidLife,
    m_InvalidCount := PySem.W.mg_of KX G aC_InvalidCount,
    m_UnknownKind := PySem.W.mg_of KX G aC_UnknownKind,
    m_UnknownBridge := PySem.W.mg_of KX G aC_UnknownBridge,
    m_UnknownPlace := PySem.W.mg_of KX G aC_UnknownPlace,
    m_Contradiction := PySem.W.mg_of KX G aC_Contradiction,
    m_DifferentTowns := PySem.W.mg_of KX G aC_DifferentTowns,
    m_TooManyBridges := PySem.W.mg_of KX G aC_TooManyBridges,
    m_BridgeError := PySem.W.mg_of KX G aC_BridgeError,
    m_Town := PySem.W.mg_of KX G aC_Town,
    r_Town := ⟨rd_Town, ga_Town⟩,
    v_Town_MAX_PLACES := ⟨cv_Town_MAX_PLACES, _, rfl⟩,
    v_Town_MAX_LIFE := ⟨cv_Town_MAX_LIFE, _, rfl⟩,
    v_Town_MAX_BRIDGES := ⟨cv_Town_MAX_BRIDGES, _, rfl⟩,
    s_Town_is_bridge := ⟨sa_Town_is_bridge, ⟨_, sr_Town_is_bridge⟩, k_Town_is_bridge⟩,
    c_Town := ⟨pg_Town, hd_Town, po_Town, st_Town⟩,
    k_Town := ⟨mk_Town, at_Town__init, fn_Town__init, kc_Town⟩,
    n_InvalidTown_index := na_InvalidTown_index,
    n_InvalidTown_part := na_InvalidTown_part,
    n_InvalidText_row := na_InvalidText_row,
    n_InvalidTrips_index := na_InvalidTrips_index,
    n_Town_size := na_Town_size,
    n_Town_links := na_Town_links,
    xf_InvalidTown := ⟨xg_InvalidTown, xh_InvalidTown, xb_InvalidTown, xd_InvalidTown⟩,
    xf_InvalidText := ⟨xg_InvalidText, xh_InvalidText, xb_InvalidText, xd_InvalidText⟩,
    xf_InvalidTrips := ⟨xg_InvalidTrips, xh_InvalidTrips, xb_InvalidTrips, xd_InvalidTrips⟩,
    p_Town_bridges := ⟨pa_Town_bridges, pb_Town_bridges, pc_Town_bridges, _, pd_Town_bridges⟩,
    p_Town_place_count := ⟨pa_Town_place_count, pb_Town_place_count, pc_Town_place_count, _, pd_Town_place_count⟩,
    p_Town_lives := ⟨pa_Town_lives, pb_Town_lives, pc_Town_lives, _, pd_Town_lives⟩,
    m_MAX_LENGTH := PySem.W.mg_of KX G g_MAX_LENGTH,
    z_list := PySem.W.mg_none_of KX G z_list,
    z_range := PySem.W.mg_none_of KX G z_range,
    z_int := PySem.W.mg_none_of KX G z_int,
    z_max := PySem.W.mg_none_of KX G z_max,
    z_len := PySem.W.mg_none_of KX G z_len,
    z_tuple := PySem.W.mg_none_of KX G z_tuple,
    z_isinstance := PySem.W.mg_none_of KX G z_isinstance,
    z_ValueError := PySem.W.mg_none_of KX G z_ValueError,
    z_enumerate := PySem.W.mg_none_of KX G z_enumerate,
    z_dict := PySem.W.mg_none_of KX G z_dict,
    z_str := PySem.W.mg_none_of KX G z_str,
    z_bool := PySem.W.mg_none_of KX G z_bool,
    x_InvalidTown := fun w base => xinit2 (fun_mk (st := inClass (top 3) 0) l_InvalidTown__init c_InvalidTown__init k_InvalidTown__init) ⟨rfl, rfl, rfl, by decide +kernel, rfl, by decide +kernel, by decide +kernel⟩ ⟨⟨_, _, _, _, _, _, _, _, _, _, _, _, _, _, _, ox_InvalidTown, bm_InvalidTown⟩, sa_InvalidTown, xb_InvalidTown, xt_InvalidTown, kc_InvalidTown⟩ at_InvalidTown__init ty_InvalidTown__init na_InvalidTown_part na_InvalidTown_index (fun s us ws _ l1 l2 => match us, l1, ws, l2 with | [_], _, [_, _], _ => .of_eq rfl) fun cdv A outer s H E => pss_cons (ps_expr (pe_oinit (pl := _) rfl (PySem.W.mg_of KX G aC_BridgeError) ⟨rd_BridgeError, ga_BridgeError⟩ bi_BridgeError (pa_cons (pv 0) (pa_cons pe_str pa_nil)))) (pss_cons (ps_ost (pv 0) (pv 1)) (pss_one (ps_ost (pv 0) (pv 2)))),
    ec_InvalidTown := ⟨xg_InvalidTown, xh_InvalidTown, xb_InvalidTown, xd_InvalidTown, xa_InvalidTown, sp_get, sp_tak, xm_InvalidTown⟩,
    kt_InvalidTown_InvalidTown := kit_own xd_InvalidTown xt_InvalidTown ss_InvalidTown_InvalidTown ss_InvalidTown_InvalidTown,
    kt_InvalidTown_InvalidText := kit_own xd_InvalidText xt_InvalidText ss_InvalidTown_InvalidTown ss_InvalidTown_InvalidText,
    kt_InvalidTown_InvalidTrips := kit_own xd_InvalidTrips xt_InvalidTrips ss_InvalidTown_InvalidTown ss_InvalidTown_InvalidTrips,
    kt_InvalidTown_InvalidCount := kit_own xd_InvalidCount xt_InvalidCount ss_InvalidTown_InvalidTown ss_InvalidTown_InvalidCount,
    kt_InvalidTown_InvalidLife := kit_own xd_InvalidLife xt_InvalidLife ss_InvalidTown_InvalidTown ss_InvalidTown_InvalidLife,
    kt_InvalidTown_InvalidLoad := kit_own xd_InvalidLoad xt_InvalidLoad ss_InvalidTown_InvalidTown ss_InvalidTown_InvalidLoad,
    kt_InvalidTown_UnknownPlace := kit_own xd_UnknownPlace xt_UnknownPlace ss_InvalidTown_InvalidTown ss_InvalidTown_UnknownPlace,
    kt_InvalidTown_UnknownBridge := kit_own xd_UnknownBridge xt_UnknownBridge ss_InvalidTown_InvalidTown ss_InvalidTown_UnknownBridge,
    kt_InvalidTown_UnknownKind := kit_own xd_UnknownKind xt_UnknownKind ss_InvalidTown_InvalidTown ss_InvalidTown_UnknownKind,
    kt_InvalidTown_TooManyBridges := kit_own xd_TooManyBridges xt_TooManyBridges ss_InvalidTown_InvalidTown ss_InvalidTown_TooManyBridges,
    kt_InvalidTown_DifferentTowns := kit_own xd_DifferentTowns xt_DifferentTowns ss_InvalidTown_InvalidTown ss_InvalidTown_DifferentTowns,
    kt_InvalidTown_Contradiction := kit_own xd_Contradiction xt_Contradiction ss_InvalidTown_InvalidTown ss_InvalidTown_Contradiction,
    kt_InvalidTown_ValueError := kit_type (by decide +kernel) ss_InvalidTown_ValueError,
    xm_InvalidTown_BridgeError := exm_own xb_BridgeError xd_BridgeError xt_BridgeError ss_InvalidTown_BridgeError }
  have hne : lc ≠ lP := fun z => by rw [z, nP] at lk; cases lk
  have cod : PySem.W.CodeHd h lc lP := ⟨_, lvs, lfile, ltf, lfl, ltg, lin, ltx, ltt, KX _ _ lk, rfl, rfl, v11, w11, v18, v7, v9, v10, hne⟩
  exact law_at (own lc lP _ _ _ _ _ _ l_law rfl hcd lk v11) nP cod (fun s u => .of_eq rfl) (law_true _) fun base _ _ TB => ok_law (L := ([], [])) X TB hcd

end
end Law
namespace Law
open PySem PySem.Spec PyProof.Rows L2 CL
theorem all_mkK {K : PySem.W.Frag} {l : PySem.W.OpenLaw} {w : World} {mg : Str → Option Value} {fa : Addr} {h : Heap} (KX : K.In h) (G : h.Ns mainGlobals mg) (hfa : mg "law" = some (.ref fa)) (own : LamX.OwnTab K fa h)
    {C_InvalidTrips : Addr}
    {C_InvalidText : Addr}
    {C_InvalidTown : Addr}
    {C_InvalidLoad : Addr}
    {C_InvalidLife : Addr}
    {C_InvalidCount : Addr}
    {C_UnknownKind : Addr}
    {C_UnknownBridge : Addr}
    {C_UnknownPlace : Addr}
    {C_Contradiction : Addr}
    {C_DifferentTowns : Addr}
    {C_TooManyBridges : Addr}
    {C_BridgeError : Addr}
    {C_Town : Addr}
    {f_law_mix : Addr} {od_law_mix an_law_mix : Option Addr} {sl_law_mix : Array (Option Value)} {oc_law_mix kV_law_mix dc_law_mix pm_law_mix cd_law_mix ct_law_mix : Value}
    {f_law_next : Addr} {od_law_next an_law_next : Option Addr} {sl_law_next : Array (Option Value)} {oc_law_next kV_law_next dc_law_next pm_law_next cd_law_next ct_law_next : Value}
    {f_law_life : Addr} {od_law_life an_law_life : Option Addr} {sl_law_life : Array (Option Value)} {oc_law_life kV_law_life dc_law_life pm_law_life cd_law_life ct_law_life : Value}
    {f_law_links : Addr} {od_law_links an_law_links : Option Addr} {sl_law_links : Array (Option Value)} {oc_law_links kV_law_links dc_law_links pm_law_links cd_law_links ct_law_links : Value}
    {f_law_spoilt : Addr} {od_law_spoilt an_law_spoilt : Option Addr} {sl_law_spoilt : Array (Option Value)} {oc_law_spoilt kV_law_spoilt dc_law_spoilt pm_law_spoilt cd_law_spoilt ct_law_spoilt : Value}
    {f_law_is_link : Addr} {od_law_is_link an_law_is_link : Option Addr} {sl_law_is_link : Array (Option Value)} {oc_law_is_link kV_law_is_link dc_law_is_link pm_law_is_link cd_law_is_link ct_law_is_link : Value}
    {f_law_first_bad : Addr} {od_law_first_bad an_law_first_bad : Option Addr} {sl_law_first_bad : Array (Option Value)} {oc_law_first_bad kV_law_first_bad dc_law_first_bad pm_law_first_bad cd_law_first_bad ct_law_first_bad : Value}
    {f_law_error : Addr} {od_law_error an_law_error : Option Addr} {sl_law_error : Array (Option Value)} {oc_law_error kV_law_error dc_law_error pm_law_error cd_law_error ct_law_error : Value}
    {f_Town_is_bridge : Addr} {od_Town_is_bridge an_Town_is_bridge : Option Addr} {sl_Town_is_bridge : Array (Option Value)} {oc_Town_is_bridge kV_Town_is_bridge dc_Town_is_bridge pm_Town_is_bridge cd_Town_is_bridge ct_Town_is_bridge : Value}
    {f_Town__init : Addr} {od_Town__init an_Town__init : Option Addr} {sl_Town__init : Array (Option Value)} {oc_Town__init kV_Town__init dc_Town__init pm_Town__init cd_Town__init ct_Town__init : Value}
    {f_law_alike : Addr} {od_law_alike an_law_alike : Option Addr} {sl_law_alike : Array (Option Value)} {oc_law_alike kV_law_alike dc_law_alike pm_law_alike cd_law_alike ct_law_alike : Value}
    {f_Town_bridges : Addr} {od_Town_bridges an_Town_bridges : Option Addr} {sl_Town_bridges : Array (Option Value)} {oc_Town_bridges kV_Town_bridges dc_Town_bridges pm_Town_bridges cd_Town_bridges ct_Town_bridges : Value}
    {f_Town_place_count : Addr} {od_Town_place_count an_Town_place_count : Option Addr} {sl_Town_place_count : Array (Option Value)} {oc_Town_place_count kV_Town_place_count dc_Town_place_count pm_Town_place_count cd_Town_place_count ct_Town_place_count : Value}
    {f_Town_lives : Addr} {od_Town_lives an_Town_lives : Option Addr} {sl_Town_lives : Array (Option Value)} {oc_Town_lives kV_Town_lives dc_Town_lives pm_Town_lives cd_Town_lives ct_Town_lives : Value}
    {f_law : Addr} {od_law an_law : Option Addr} {sl_law : Array (Option Value)} {oc_law kV_law dc_law pm_law cd_law ct_law : Value}
    {w_Town_MAX_PLACES : Tok}
    {w_Town_MAX_LIFE : Tok}
    {w_Town_MAX_BRIDGES : Tok}
    {p_Town_is_bridge : Addr} {rs_Town_is_bridge : List Value}
    {a_Town_bridges : Addr} {rp_Town_bridges : List Value}
    {a_Town_place_count : Addr} {rp_Town_place_count : List Value}
    {a_Town_lives : Addr} {rp_Town_lives : List Value}
    {t_MAX_LENGTH : Tok}
    {f_InvalidTown__init : Addr} {od_InvalidTown__init an_InvalidTown__init : Option Addr} {sl_InvalidTown__init : Array (Option Value)} {oc_InvalidTown__init kV_InvalidTown__init dc_InvalidTown__init pm_InvalidTown__init cd_InvalidTown__init ct_InvalidTown__init : Value}
    {nm_InvalidTown qn_InvalidTown : Str} {N_InvalidTown : Addr} {bs_InvalidTown bm_InvalidTown : List Value} {sn_InvalidTown : List Str} {su_InvalidTown : List Value} {ab_InvalidTown : Bool} {co_InvalidTown : Option Bool} {dd_InvalidTown : Option Addr} {ka_InvalidTown kb_InvalidTown ke_InvalidTown kf_InvalidTown kg_InvalidTown : Option Value}
    {lc lP : Addr} {lod : Option Addr} {lvs : Array Value} {lsl : Array (Option Value)} {lfile : Str} {lfl : Int} {lin : Bool} {ltx : Int} {ltf ltg ltt : Tok}
    (aC_InvalidTrips : PySem.W.nsIn K mainGlobals ("InvalidTrips" : Str) = some (some (.ref C_InvalidTrips)))
    (aC_InvalidText : PySem.W.nsIn K mainGlobals ("InvalidText" : Str) = some (some (.ref C_InvalidText)))
    (aC_InvalidTown : PySem.W.nsIn K mainGlobals ("InvalidTown" : Str) = some (some (.ref C_InvalidTown)))
    (aC_InvalidLoad : PySem.W.nsIn K mainGlobals ("InvalidLoad" : Str) = some (some (.ref C_InvalidLoad)))
    (aC_InvalidLife : PySem.W.nsIn K mainGlobals ("InvalidLife" : Str) = some (some (.ref C_InvalidLife)))
    (aC_InvalidCount : PySem.W.nsIn K mainGlobals ("InvalidCount" : Str) = some (some (.ref C_InvalidCount)))
    (aC_UnknownKind : PySem.W.nsIn K mainGlobals ("UnknownKind" : Str) = some (some (.ref C_UnknownKind)))
    (aC_UnknownBridge : PySem.W.nsIn K mainGlobals ("UnknownBridge" : Str) = some (some (.ref C_UnknownBridge)))
    (aC_UnknownPlace : PySem.W.nsIn K mainGlobals ("UnknownPlace" : Str) = some (some (.ref C_UnknownPlace)))
    (aC_Contradiction : PySem.W.nsIn K mainGlobals ("Contradiction" : Str) = some (some (.ref C_Contradiction)))
    (aC_DifferentTowns : PySem.W.nsIn K mainGlobals ("DifferentTowns" : Str) = some (some (.ref C_DifferentTowns)))
    (aC_TooManyBridges : PySem.W.nsIn K mainGlobals ("TooManyBridges" : Str) = some (some (.ref C_TooManyBridges)))
    (aC_BridgeError : PySem.W.nsIn K mainGlobals ("BridgeError" : Str) = some (some (.ref C_BridgeError)))
    (aC_Town : PySem.W.nsIn K mainGlobals ("Town" : Str) = some (some (.ref C_Town)))
    (a_law_mix : PySem.W.nsIn K mainGlobals ("_law_mix" : Str) = some (some (.ref f_law_mix)))
    (l_law_mix : K.lookup f_law_mix = some ⟨oc_law_mix, od_law_mix, .func (PySem.W.fnOf ("_law_mix" : Str) ("_law_mix" : Str) (defArgs (top 21)) (defBody (top 21)) (defScope (top 21)) .none kV_law_mix dc_law_mix pm_law_mix an_law_mix cd_law_mix ct_law_mix), sl_law_mix⟩)
    (c_law_mix : PySem.W.codeIn K cd_law_mix ("_law_mix" : Str) = true)
    (k_law_mix : PySem.W.keepIn K (.ref f_law_mix) = true)
    (a_law_next : PySem.W.nsIn K mainGlobals ("_law_next" : Str) = some (some (.ref f_law_next)))
    (l_law_next : K.lookup f_law_next = some ⟨oc_law_next, od_law_next, .func (PySem.W.fnOf ("_law_next" : Str) ("_law_next" : Str) (defArgs (top 22)) (defBody (top 22)) (defScope (top 22)) .none kV_law_next dc_law_next pm_law_next an_law_next cd_law_next ct_law_next), sl_law_next⟩)
    (c_law_next : PySem.W.codeIn K cd_law_next ("_law_next" : Str) = true)
    (k_law_next : PySem.W.keepIn K (.ref f_law_next) = true)
    (a_law_life : PySem.W.nsIn K mainGlobals ("_law_life" : Str) = some (some (.ref f_law_life)))
    (l_law_life : K.lookup f_law_life = some ⟨oc_law_life, od_law_life, .func (PySem.W.fnOf ("_law_life" : Str) ("_law_life" : Str) (defArgs (top 25)) (defBody (top 25)) (defScope (top 25)) .none kV_law_life dc_law_life pm_law_life an_law_life cd_law_life ct_law_life), sl_law_life⟩)
    (c_law_life : PySem.W.codeIn K cd_law_life ("_law_life" : Str) = true)
    (k_law_life : PySem.W.keepIn K (.ref f_law_life) = true)
    (a_law_links : PySem.W.nsIn K mainGlobals ("_law_links" : Str) = some (some (.ref f_law_links)))
    (l_law_links : K.lookup f_law_links = some ⟨oc_law_links, od_law_links, .func (PySem.W.fnOf ("_law_links" : Str) ("_law_links" : Str) (defArgs (top 26)) (defBody (top 26)) (defScope (top 26)) .none kV_law_links dc_law_links pm_law_links an_law_links cd_law_links ct_law_links), sl_law_links⟩)
    (c_law_links : PySem.W.codeIn K cd_law_links ("_law_links" : Str) = true)
    (k_law_links : PySem.W.keepIn K (.ref f_law_links) = true)
    (a_law_spoilt : PySem.W.nsIn K mainGlobals ("_law_spoilt" : Str) = some (some (.ref f_law_spoilt)))
    (l_law_spoilt : K.lookup f_law_spoilt = some ⟨oc_law_spoilt, od_law_spoilt, .func (PySem.W.fnOf ("_law_spoilt" : Str) ("_law_spoilt" : Str) (defArgs (top 30)) (defBody (top 30)) (defScope (top 30)) .none kV_law_spoilt dc_law_spoilt pm_law_spoilt an_law_spoilt cd_law_spoilt ct_law_spoilt), sl_law_spoilt⟩)
    (c_law_spoilt : PySem.W.codeIn K cd_law_spoilt ("_law_spoilt" : Str) = true)
    (k_law_spoilt : PySem.W.keepIn K (.ref f_law_spoilt) = true)
    (a_law_is_link : PySem.W.nsIn K mainGlobals ("_law_is_link" : Str) = some (some (.ref f_law_is_link)))
    (l_law_is_link : K.lookup f_law_is_link = some ⟨oc_law_is_link, od_law_is_link, .func (PySem.W.fnOf ("_law_is_link" : Str) ("_law_is_link" : Str) (defArgs (top 28)) (defBody (top 28)) (defScope (top 28)) .none kV_law_is_link dc_law_is_link pm_law_is_link an_law_is_link cd_law_is_link ct_law_is_link), sl_law_is_link⟩)
    (c_law_is_link : PySem.W.codeIn K cd_law_is_link ("_law_is_link" : Str) = true)
    (k_law_is_link : PySem.W.keepIn K (.ref f_law_is_link) = true)
    (a_law_first_bad : PySem.W.nsIn K mainGlobals ("_law_first_bad" : Str) = some (some (.ref f_law_first_bad)))
    (l_law_first_bad : K.lookup f_law_first_bad = some ⟨oc_law_first_bad, od_law_first_bad, .func (PySem.W.fnOf ("_law_first_bad" : Str) ("_law_first_bad" : Str) (defArgs (top 29)) (defBody (top 29)) (defScope (top 29)) .none kV_law_first_bad dc_law_first_bad pm_law_first_bad an_law_first_bad cd_law_first_bad ct_law_first_bad), sl_law_first_bad⟩)
    (c_law_first_bad : PySem.W.codeIn K cd_law_first_bad ("_law_first_bad" : Str) = true)
    (k_law_first_bad : PySem.W.keepIn K (.ref f_law_first_bad) = true)
    (a_law_error : PySem.W.nsIn K mainGlobals ("_law_error" : Str) = some (some (.ref f_law_error)))
    (l_law_error : K.lookup f_law_error = some ⟨oc_law_error, od_law_error, .func (PySem.W.fnOf ("_law_error" : Str) ("_law_error" : Str) (defArgs (top 24)) (defBody (top 24)) (defScope (top 24)) .none kV_law_error dc_law_error pm_law_error an_law_error cd_law_error ct_law_error), sl_law_error⟩)
    (c_law_error : PySem.W.codeIn K cd_law_error ("_law_error" : Str) = true)
    (k_law_error : PySem.W.keepIn K (.ref f_law_error) = true)
    (l_Town_is_bridge : K.lookup f_Town_is_bridge = some ⟨oc_Town_is_bridge, od_Town_is_bridge, .func (PySem.W.fnOf ("is_bridge" : Str) ("Town.is_bridge" : Str) (defArgs (inClass (top 19) 4)) (defBody (inClass (top 19) 4)) (defScope (inClass (top 19) 4)) .none kV_Town_is_bridge dc_Town_is_bridge pm_Town_is_bridge an_Town_is_bridge cd_Town_is_bridge ct_Town_is_bridge), sl_Town_is_bridge⟩)
    (c_Town_is_bridge : PySem.W.codeIn K cd_Town_is_bridge ("Town.is_bridge" : Str) = true)
    (k_Town_is_bridge : PySem.W.keepIn K (.ref f_Town_is_bridge) = true)
    (l_Town__init : K.lookup f_Town__init = some ⟨oc_Town__init, od_Town__init, .func (PySem.W.fnOf ("__init__" : Str) ("Town.__init__" : Str) (defArgs (inClass (top 19) 3)) (defBody (inClass (top 19) 3)) (defScope (inClass (top 19) 3)) .none kV_Town__init dc_Town__init pm_Town__init an_Town__init cd_Town__init ct_Town__init), sl_Town__init⟩)
    (c_Town__init : PySem.W.codeIn K cd_Town__init ("Town.__init__" : Str) = true)
    (k_Town__init : PySem.W.keepIn K (.ref f_Town__init) = true)
    (at_Town__init : PySem.W.findIn K (.ref C_Town) "__init__" = some (some (.ref f_Town__init)))
    (fn_Town__init : PySem.W.isFn K (.ref f_Town__init) = true)
    (a_law_alike : PySem.W.nsIn K mainGlobals ("_law_alike" : Str) = some (some (.ref f_law_alike)))
    (l_law_alike : K.lookup f_law_alike = some ⟨oc_law_alike, od_law_alike, .func (PySem.W.fnOf ("_law_alike" : Str) ("_law_alike" : Str) (defArgs (top 23)) (defBody (top 23)) (defScope (top 23)) .none kV_law_alike dc_law_alike pm_law_alike an_law_alike cd_law_alike ct_law_alike), sl_law_alike⟩)
    (c_law_alike : PySem.W.codeIn K cd_law_alike ("_law_alike" : Str) = true)
    (k_law_alike : PySem.W.keepIn K (.ref f_law_alike) = true)
    (l_Town_bridges : K.lookup f_Town_bridges = some ⟨oc_Town_bridges, od_Town_bridges, .func (PySem.W.fnOf ("bridges" : Str) ("Town.bridges" : Str) (defArgs (inClass (top 19) 7)) (defBody (inClass (top 19) 7)) (defScope (inClass (top 19) 7)) .none kV_Town_bridges dc_Town_bridges pm_Town_bridges an_Town_bridges cd_Town_bridges ct_Town_bridges), sl_Town_bridges⟩)
    (c_Town_bridges : PySem.W.codeIn K cd_Town_bridges ("Town.bridges" : Str) = true)
    (k_Town_bridges : PySem.W.keepIn K (.ref f_Town_bridges) = true)
    (l_Town_place_count : K.lookup f_Town_place_count = some ⟨oc_Town_place_count, od_Town_place_count, .func (PySem.W.fnOf ("place_count" : Str) ("Town.place_count" : Str) (defArgs (inClass (top 19) 6)) (defBody (inClass (top 19) 6)) (defScope (inClass (top 19) 6)) .none kV_Town_place_count dc_Town_place_count pm_Town_place_count an_Town_place_count cd_Town_place_count ct_Town_place_count), sl_Town_place_count⟩)
    (c_Town_place_count : PySem.W.codeIn K cd_Town_place_count ("Town.place_count" : Str) = true)
    (k_Town_place_count : PySem.W.keepIn K (.ref f_Town_place_count) = true)
    (l_Town_lives : K.lookup f_Town_lives = some ⟨oc_Town_lives, od_Town_lives, .func (PySem.W.fnOf ("lives" : Str) ("Town.lives" : Str) (defArgs (inClass (top 19) 8)) (defBody (inClass (top 19) 8)) (defScope (inClass (top 19) 8)) .none kV_Town_lives dc_Town_lives pm_Town_lives an_Town_lives cd_Town_lives ct_Town_lives), sl_Town_lives⟩)
    (c_Town_lives : PySem.W.codeIn K cd_Town_lives ("Town.lives" : Str) = true)
    (k_Town_lives : PySem.W.keepIn K (.ref f_Town_lives) = true)
    (a_law : PySem.W.nsIn K mainGlobals ("law" : Str) = some (some (.ref f_law)))
    (l_law : K.lookup f_law = some ⟨oc_law, od_law, .func (PySem.W.fnOf ("law" : Str) ("law" : Str) (defArgs (top 31)) (defBody (top 31)) (defScope (top 31)) .none kV_law dc_law pm_law an_law cd_law ct_law), sl_law⟩)
    (c_law : PySem.W.codeIn K cd_law ("law" : Str) = true)
    (k_law : PySem.W.keepIn K (.ref f_law) = true)
    (rd_Town : PySem.W.readsIn K C_Town (.type "type") = true)
    (ga_Town : PySem.W.specialIn K (.ref C_Town) "__getattribute__" = some (some (.builtin "type.__getattribute__")))
    (rd_BridgeError : PySem.W.readsIn K C_BridgeError (.type "type") = true)
    (ga_BridgeError : PySem.W.specialIn K (.ref C_BridgeError) "__getattribute__" = some (some (.builtin "type.__getattribute__")))
    (cv_Town_MAX_PLACES : PySem.W.findCls K (.ref C_Town) (.type "type") ("MAX_PLACES" : Str) = some (.val (.int 12 w_Town_MAX_PLACES)))
    (cv_Town_MAX_LIFE : PySem.W.findCls K (.ref C_Town) (.type "type") ("MAX_LIFE" : Str) = some (.val (.int 1000000000000000000 w_Town_MAX_LIFE)))
    (cv_Town_MAX_BRIDGES : PySem.W.findCls K (.ref C_Town) (.type "type") ("MAX_BRIDGES" : Str) = some (.val (.int 24 w_Town_MAX_BRIDGES)))
    (sa_Town_is_bridge : PySem.W.findCls K (.ref C_Town) (.type "type") ("is_bridge" : Str) = some (.get (.builtin "staticmethod.__get__") (.ref p_Town_is_bridge) .none (.ref C_Town)))
    (sr_Town_is_bridge : PySem.W.recIn K p_Town_is_bridge "staticmethod" = some (.ref f_Town_is_bridge :: rs_Town_is_bridge))
    (pg_Town : PySem.W.plainGet K C_Town Str.empty = true)
    (hd_Town : PySem.W.hasDictIn K C_Town = true)
    (po_Town : PySem.W.plainOver K C_Town = true)
    (st_Town : PySem.W.findIn K (.ref C_Town) "__setattr__" = some (some (.builtin "object.__setattr__")))
    (mk_Town : PySem.W.makesIn K C_Town = true)
    (kc_Town : PySem.W.keepIn K (.ref C_Town) = true)
    (na_InvalidTown_index : PySem.W.findIn K (.ref C_InvalidTown) ("index" : Str) = some none)
    (na_InvalidTown_part : PySem.W.findIn K (.ref C_InvalidTown) ("part" : Str) = some none)
    (na_InvalidText_row : PySem.W.findIn K (.ref C_InvalidText) ("row" : Str) = some none)
    (na_InvalidTrips_index : PySem.W.findIn K (.ref C_InvalidTrips) ("index" : Str) = some none)
    (na_Town_size : PySem.W.findIn K (.ref C_Town) ("size" : Str) = some none)
    (na_Town_links : PySem.W.findIn K (.ref C_Town) ("links" : Str) = some none)
    (xg_InvalidTown : PySem.W.findIn K (.ref C_InvalidTown) "__getattribute__" = some (some (.builtin "BaseException.__getattribute__")))
    (xh_InvalidTown : PySem.W.findIn K (.ref C_InvalidTown) "__getattr__" = some none)
    (xg_InvalidText : PySem.W.findIn K (.ref C_InvalidText) "__getattribute__" = some (some (.builtin "BaseException.__getattribute__")))
    (xh_InvalidText : PySem.W.findIn K (.ref C_InvalidText) "__getattr__" = some none)
    (xg_InvalidTrips : PySem.W.findIn K (.ref C_InvalidTrips) "__getattribute__" = some (some (.builtin "BaseException.__getattribute__")))
    (xh_InvalidTrips : PySem.W.findIn K (.ref C_InvalidTrips) "__getattr__" = some none)
    (xb_InvalidTown : PySem.W.subIn K (.ref C_InvalidTown) (.type "BaseException") = some true)
    (xd_InvalidTown : PySem.W.hasDictIn K C_InvalidTown = true)
    (xt_InvalidTown : PySem.W.typeIn K (.ref C_InvalidTown) = some (.type "type"))
    (xb_InvalidText : PySem.W.subIn K (.ref C_InvalidText) (.type "BaseException") = some true)
    (xd_InvalidText : PySem.W.hasDictIn K C_InvalidText = true)
    (xt_InvalidText : PySem.W.typeIn K (.ref C_InvalidText) = some (.type "type"))
    (xb_InvalidTrips : PySem.W.subIn K (.ref C_InvalidTrips) (.type "BaseException") = some true)
    (xd_InvalidTrips : PySem.W.hasDictIn K C_InvalidTrips = true)
    (xt_InvalidTrips : PySem.W.typeIn K (.ref C_InvalidTrips) = some (.type "type"))
    (xb_InvalidCount : PySem.W.subIn K (.ref C_InvalidCount) (.type "BaseException") = some true)
    (xd_InvalidCount : PySem.W.hasDictIn K C_InvalidCount = true)
    (xt_InvalidCount : PySem.W.typeIn K (.ref C_InvalidCount) = some (.type "type"))
    (xb_InvalidLife : PySem.W.subIn K (.ref C_InvalidLife) (.type "BaseException") = some true)
    (xd_InvalidLife : PySem.W.hasDictIn K C_InvalidLife = true)
    (xt_InvalidLife : PySem.W.typeIn K (.ref C_InvalidLife) = some (.type "type"))
    (xb_InvalidLoad : PySem.W.subIn K (.ref C_InvalidLoad) (.type "BaseException") = some true)
    (xd_InvalidLoad : PySem.W.hasDictIn K C_InvalidLoad = true)
    (xt_InvalidLoad : PySem.W.typeIn K (.ref C_InvalidLoad) = some (.type "type"))
    (xb_UnknownPlace : PySem.W.subIn K (.ref C_UnknownPlace) (.type "BaseException") = some true)
    (xd_UnknownPlace : PySem.W.hasDictIn K C_UnknownPlace = true)
    (xt_UnknownPlace : PySem.W.typeIn K (.ref C_UnknownPlace) = some (.type "type"))
    (xb_UnknownBridge : PySem.W.subIn K (.ref C_UnknownBridge) (.type "BaseException") = some true)
    (xd_UnknownBridge : PySem.W.hasDictIn K C_UnknownBridge = true)
    (xt_UnknownBridge : PySem.W.typeIn K (.ref C_UnknownBridge) = some (.type "type"))
    (xb_UnknownKind : PySem.W.subIn K (.ref C_UnknownKind) (.type "BaseException") = some true)
    (xd_UnknownKind : PySem.W.hasDictIn K C_UnknownKind = true)
    (xt_UnknownKind : PySem.W.typeIn K (.ref C_UnknownKind) = some (.type "type"))
    (xb_TooManyBridges : PySem.W.subIn K (.ref C_TooManyBridges) (.type "BaseException") = some true)
    (xd_TooManyBridges : PySem.W.hasDictIn K C_TooManyBridges = true)
    (xt_TooManyBridges : PySem.W.typeIn K (.ref C_TooManyBridges) = some (.type "type"))
    (xb_DifferentTowns : PySem.W.subIn K (.ref C_DifferentTowns) (.type "BaseException") = some true)
    (xd_DifferentTowns : PySem.W.hasDictIn K C_DifferentTowns = true)
    (xt_DifferentTowns : PySem.W.typeIn K (.ref C_DifferentTowns) = some (.type "type"))
    (xb_Contradiction : PySem.W.subIn K (.ref C_Contradiction) (.type "BaseException") = some true)
    (xd_Contradiction : PySem.W.hasDictIn K C_Contradiction = true)
    (xt_Contradiction : PySem.W.typeIn K (.ref C_Contradiction) = some (.type "type"))
    (xb_BridgeError : PySem.W.subIn K (.ref C_BridgeError) (.type "BaseException") = some true)
    (xd_BridgeError : PySem.W.hasDictIn K C_BridgeError = true)
    (xt_BridgeError : PySem.W.typeIn K (.ref C_BridgeError) = some (.type "type"))
    (pa_Town_bridges : PySem.W.findIn K (.ref C_Town) ("bridges" : Str) = some (some (.ref a_Town_bridges)))
    (pb_Town_bridges : PySem.W.specialIn K (.ref a_Town_bridges) "__get__" = some (some (.builtin "property.__get__")))
    (pc_Town_bridges : PySem.W.takesIn K (.ref a_Town_bridges) = some true)
    (pd_Town_bridges : PySem.W.recIn K a_Town_bridges "property" = some (.ref f_Town_bridges :: rp_Town_bridges))
    (pa_Town_place_count : PySem.W.findIn K (.ref C_Town) ("place_count" : Str) = some (some (.ref a_Town_place_count)))
    (pb_Town_place_count : PySem.W.specialIn K (.ref a_Town_place_count) "__get__" = some (some (.builtin "property.__get__")))
    (pc_Town_place_count : PySem.W.takesIn K (.ref a_Town_place_count) = some true)
    (pd_Town_place_count : PySem.W.recIn K a_Town_place_count "property" = some (.ref f_Town_place_count :: rp_Town_place_count))
    (pa_Town_lives : PySem.W.findIn K (.ref C_Town) ("lives" : Str) = some (some (.ref a_Town_lives)))
    (pb_Town_lives : PySem.W.specialIn K (.ref a_Town_lives) "__get__" = some (some (.builtin "property.__get__")))
    (pc_Town_lives : PySem.W.takesIn K (.ref a_Town_lives) = some true)
    (pd_Town_lives : PySem.W.recIn K a_Town_lives "property" = some (.ref f_Town_lives :: rp_Town_lives))
    (g_MAX_LENGTH : PySem.W.nsIn K mainGlobals ("MAX_LENGTH" : Str) = some (some (.int 99 t_MAX_LENGTH)))
    (z_list : PySem.W.nsIn K mainGlobals ("list" : Str) = some none)
    (z_range : PySem.W.nsIn K mainGlobals ("range" : Str) = some none)
    (z_int : PySem.W.nsIn K mainGlobals ("int" : Str) = some none)
    (z_max : PySem.W.nsIn K mainGlobals ("max" : Str) = some none)
    (z_len : PySem.W.nsIn K mainGlobals ("len" : Str) = some none)
    (z_tuple : PySem.W.nsIn K mainGlobals ("tuple" : Str) = some none)
    (z_isinstance : PySem.W.nsIn K mainGlobals ("isinstance" : Str) = some none)
    (z_ValueError : PySem.W.nsIn K mainGlobals ("ValueError" : Str) = some none)
    (z_enumerate : PySem.W.nsIn K mainGlobals ("enumerate" : Str) = some none)
    (z_dict : PySem.W.nsIn K mainGlobals ("dict" : Str) = some none)
    (z_str : PySem.W.nsIn K mainGlobals ("str" : Str) = some none)
    (z_bool : PySem.W.nsIn K mainGlobals ("bool" : Str) = some none)
    (bi_BridgeError : PySem.W.findCls K (.ref C_BridgeError) (.type "type") "__init__" = some (.val (.builtin "ValueError.__init__")))
    (kc_InvalidTown : PySem.W.keepIn K (.ref C_InvalidTown) = true)
    (l_InvalidTown__init : K.lookup f_InvalidTown__init = some ⟨oc_InvalidTown__init, od_InvalidTown__init, .func (PySem.W.fnOf ("__init__" : Str) ("InvalidTown.__init__" : Str) (defArgs (inClass (top 3) 0)) (defBody (inClass (top 3) 0)) (defScope (inClass (top 3) 0)) .none kV_InvalidTown__init dc_InvalidTown__init pm_InvalidTown__init an_InvalidTown__init cd_InvalidTown__init ct_InvalidTown__init), sl_InvalidTown__init⟩)
    (c_InvalidTown__init : PySem.W.codeIn K cd_InvalidTown__init ("InvalidTown.__init__" : Str) = true)
    (k_InvalidTown__init : PySem.W.keepIn K (.ref f_InvalidTown__init) = true)
    (at_InvalidTown__init : PySem.W.findIn K (.ref C_InvalidTown) "__init__" = some (some (.ref f_InvalidTown__init)))
    (ty_InvalidTown__init : PySem.W.typeIn K (.ref f_InvalidTown__init) = some (.type "function"))
    (sa_InvalidTown : PySem.W.findIn K (.ref C_InvalidTown) "__setattr__" = some (some (.builtin "object.__setattr__")))
    (ox_InvalidTown : K.lookup C_InvalidTown = some (excClassObj nm_InvalidTown qn_InvalidTown C_InvalidTown N_InvalidTown bs_InvalidTown bm_InvalidTown true sn_InvalidTown su_InvalidTown ab_InvalidTown co_InvalidTown dd_InvalidTown ka_InvalidTown kb_InvalidTown ke_InvalidTown kf_InvalidTown kg_InvalidTown "ValueError.__new__"))
    (bm_InvalidTown : PySem.HandSPX.refsVE bm_InvalidTown = true)
    (xa_InvalidTown : PySem.W.findIn K (.ref C_InvalidTown) "__class__" = some (some (.builtin "object.__class__")))
    (xm_InvalidTown : PySem.W.mroIn K C_InvalidTown (.type "object") = some true)
    (ss_InvalidTown_InvalidTown : PySem.W.subIn K (.ref C_InvalidTown) (.ref C_InvalidTown) = some true)
    (ss_InvalidTown_InvalidText : PySem.W.subIn K (.ref C_InvalidTown) (.ref C_InvalidText) = some false)
    (ss_InvalidTown_InvalidTrips : PySem.W.subIn K (.ref C_InvalidTown) (.ref C_InvalidTrips) = some false)
    (ss_InvalidTown_InvalidCount : PySem.W.subIn K (.ref C_InvalidTown) (.ref C_InvalidCount) = some false)
    (ss_InvalidTown_InvalidLife : PySem.W.subIn K (.ref C_InvalidTown) (.ref C_InvalidLife) = some false)
    (ss_InvalidTown_InvalidLoad : PySem.W.subIn K (.ref C_InvalidTown) (.ref C_InvalidLoad) = some false)
    (ss_InvalidTown_UnknownPlace : PySem.W.subIn K (.ref C_InvalidTown) (.ref C_UnknownPlace) = some false)
    (ss_InvalidTown_UnknownBridge : PySem.W.subIn K (.ref C_InvalidTown) (.ref C_UnknownBridge) = some false)
    (ss_InvalidTown_UnknownKind : PySem.W.subIn K (.ref C_InvalidTown) (.ref C_UnknownKind) = some false)
    (ss_InvalidTown_TooManyBridges : PySem.W.subIn K (.ref C_InvalidTown) (.ref C_TooManyBridges) = some false)
    (ss_InvalidTown_DifferentTowns : PySem.W.subIn K (.ref C_InvalidTown) (.ref C_DifferentTowns) = some false)
    (ss_InvalidTown_Contradiction : PySem.W.subIn K (.ref C_InvalidTown) (.ref C_Contradiction) = some false)
    (ss_InvalidTown_ValueError : PySem.W.subIn K (.ref C_InvalidTown) (.type "ValueError") = some true)
    (ss_InvalidTown_BridgeError : PySem.W.subIn K (.ref C_InvalidTown) (.ref C_BridgeError) = some true)
    (sp_get : PySem.W.specialIn K (.builtin "object.__class__") "__get__" = some (some (.builtin "getset_descriptor.__get__")))
    (sp_tak : PySem.W.takesIn K (.builtin "object.__class__") = some true)
    (hcd : cd_law = .ref lc)
    (lk : K.lookup lc = some ⟨.type "code", lod, .fields lvs, lsl⟩)
    (v11 : lvs[11]? = some (.ref lP))
    (w11 : lvs.getD 11 .none = .ref lP)
    (v18 : lvs.getD 18 .none = .str lfile ltf)
    (v7 : lvs.getD 7 .none = .int lfl ltg)
    (v9 : lvs.getD 9 .none = .bool lin)
    (v10 : lvs.getD 10 .none = .int ltx ltt)
    (nP : K.lookup lP = none) :
    LamX.LawAtS l w K (L2.CX l.prog w) 8 63 "_law_script" mg fa h := by
  letI : TheK := ⟨K⟩
  exact all_mk KX G hfa own aC_InvalidTrips aC_InvalidText aC_InvalidTown aC_InvalidLoad aC_InvalidLife aC_InvalidCount aC_UnknownKind aC_UnknownBridge aC_UnknownPlace aC_Contradiction aC_DifferentTowns aC_TooManyBridges aC_BridgeError aC_Town a_law_mix l_law_mix c_law_mix k_law_mix a_law_next l_law_next c_law_next k_law_next a_law_life l_law_life c_law_life k_law_life a_law_links l_law_links c_law_links k_law_links a_law_spoilt l_law_spoilt c_law_spoilt k_law_spoilt a_law_is_link l_law_is_link c_law_is_link k_law_is_link a_law_first_bad l_law_first_bad c_law_first_bad k_law_first_bad a_law_error l_law_error c_law_error k_law_error l_Town_is_bridge c_Town_is_bridge k_Town_is_bridge l_Town__init c_Town__init k_Town__init at_Town__init fn_Town__init a_law_alike l_law_alike c_law_alike k_law_alike l_Town_bridges c_Town_bridges k_Town_bridges l_Town_place_count c_Town_place_count k_Town_place_count l_Town_lives c_Town_lives k_Town_lives a_law l_law c_law k_law rd_Town ga_Town rd_BridgeError ga_BridgeError cv_Town_MAX_PLACES cv_Town_MAX_LIFE cv_Town_MAX_BRIDGES sa_Town_is_bridge sr_Town_is_bridge pg_Town hd_Town po_Town st_Town mk_Town kc_Town na_InvalidTown_index na_InvalidTown_part na_InvalidText_row na_InvalidTrips_index na_Town_size na_Town_links xg_InvalidTown xh_InvalidTown xg_InvalidText xh_InvalidText xg_InvalidTrips xh_InvalidTrips xb_InvalidTown xd_InvalidTown xt_InvalidTown xb_InvalidText xd_InvalidText xt_InvalidText xb_InvalidTrips xd_InvalidTrips xt_InvalidTrips xb_InvalidCount xd_InvalidCount xt_InvalidCount xb_InvalidLife xd_InvalidLife xt_InvalidLife xb_InvalidLoad xd_InvalidLoad xt_InvalidLoad xb_UnknownPlace xd_UnknownPlace xt_UnknownPlace xb_UnknownBridge xd_UnknownBridge xt_UnknownBridge xb_UnknownKind xd_UnknownKind xt_UnknownKind xb_TooManyBridges xd_TooManyBridges xt_TooManyBridges xb_DifferentTowns xd_DifferentTowns xt_DifferentTowns xb_Contradiction xd_Contradiction xt_Contradiction xb_BridgeError xd_BridgeError xt_BridgeError pa_Town_bridges pb_Town_bridges pc_Town_bridges pd_Town_bridges pa_Town_place_count pb_Town_place_count pc_Town_place_count pd_Town_place_count pa_Town_lives pb_Town_lives pc_Town_lives pd_Town_lives g_MAX_LENGTH z_list z_range z_int z_max z_len z_tuple z_isinstance z_ValueError z_enumerate z_dict z_str z_bool bi_BridgeError kc_InvalidTown l_InvalidTown__init c_InvalidTown__init k_InvalidTown__init at_InvalidTown__init ty_InvalidTown__init sa_InvalidTown ox_InvalidTown bm_InvalidTown xa_InvalidTown xm_InvalidTown ss_InvalidTown_InvalidTown ss_InvalidTown_InvalidText ss_InvalidTown_InvalidTrips ss_InvalidTown_InvalidCount ss_InvalidTown_InvalidLife ss_InvalidTown_InvalidLoad ss_InvalidTown_UnknownPlace ss_InvalidTown_UnknownBridge ss_InvalidTown_UnknownKind ss_InvalidTown_TooManyBridges ss_InvalidTown_DifferentTowns ss_InvalidTown_Contradiction ss_InvalidTown_ValueError ss_InvalidTown_BridgeError sp_get sp_tak hcd lk v11 w11 v18 v7 v9 v10 nP
end Law
open PySem PySem.W PyProof.Rows
set_option maxRecDepth 100000 in
set_option maxHeartbeats 0 in
theorem PySem.Challenge.cw_wornbridges_k01_towns_validated_holds : PySem.Challenge.rw_wornbridges_k01_towns_validated.Holds := by
  w_on; o_law; k_head; (case hw => w_witness2)
  k_fill
  refine LamX.walk_ofOwn (l := PySem.Challenge.rw_wornbridges_k01_towns_validated) (n := 63) (k := 8) (x := "_law_script") (CX := fun w => L2.CX PySem.Challenge.pw_wornbridges_k01_towns_validated w) rfl (by decide) rfl ⟨rfl, by decide, by decide⟩ (by first | rfl | decide +kernel) (fun w h Y => by first | exact PySem.W.km_in_of Y | exact PySem.W.kIn_of Y) ?F (fun _ _ _ _ _ z => by obtain ⟨_, _, _, _, _, _, _, _, _, _, _, _, q⟩ := z; exact q)
  case F =>
    intro w mg fa h Y KX G hmg own
    refine' Law.all_mkK (l := PySem.Challenge.rw_wornbridges_k01_towns_validated) KX G hmg own ?aC_InvalidTrips ?aC_InvalidText ?aC_InvalidTown ?aC_InvalidLoad ?aC_InvalidLife ?aC_InvalidCount ?aC_UnknownKind ?aC_UnknownBridge ?aC_UnknownPlace ?aC_Contradiction ?aC_DifferentTowns ?aC_TooManyBridges ?aC_BridgeError ?aC_Town ?a_law_mix ?l_law_mix ?c_law_mix ?k_law_mix ?a_law_next ?l_law_next ?c_law_next ?k_law_next ?a_law_life ?l_law_life ?c_law_life ?k_law_life ?a_law_links ?l_law_links ?c_law_links ?k_law_links ?a_law_spoilt ?l_law_spoilt ?c_law_spoilt ?k_law_spoilt ?a_law_is_link ?l_law_is_link ?c_law_is_link ?k_law_is_link ?a_law_first_bad ?l_law_first_bad ?c_law_first_bad ?k_law_first_bad ?a_law_error ?l_law_error ?c_law_error ?k_law_error ?l_Town_is_bridge ?c_Town_is_bridge ?k_Town_is_bridge ?l_Town__init ?c_Town__init ?k_Town__init ?at_Town__init ?fn_Town__init ?a_law_alike ?l_law_alike ?c_law_alike ?k_law_alike ?l_Town_bridges ?c_Town_bridges ?k_Town_bridges ?l_Town_place_count ?c_Town_place_count ?k_Town_place_count ?l_Town_lives ?c_Town_lives ?k_Town_lives ?a_law ?l_law ?c_law ?k_law ?rd_Town ?ga_Town ?rd_BridgeError ?ga_BridgeError ?cv_Town_MAX_PLACES ?cv_Town_MAX_LIFE ?cv_Town_MAX_BRIDGES ?sa_Town_is_bridge ?sr_Town_is_bridge ?pg_Town ?hd_Town ?po_Town ?st_Town ?mk_Town ?kc_Town ?na_InvalidTown_index ?na_InvalidTown_part ?na_InvalidText_row ?na_InvalidTrips_index ?na_Town_size ?na_Town_links ?xg_InvalidTown ?xh_InvalidTown ?xg_InvalidText ?xh_InvalidText ?xg_InvalidTrips ?xh_InvalidTrips ?xb_InvalidTown ?xd_InvalidTown ?xt_InvalidTown ?xb_InvalidText ?xd_InvalidText ?xt_InvalidText ?xb_InvalidTrips ?xd_InvalidTrips ?xt_InvalidTrips ?xb_InvalidCount ?xd_InvalidCount ?xt_InvalidCount ?xb_InvalidLife ?xd_InvalidLife ?xt_InvalidLife ?xb_InvalidLoad ?xd_InvalidLoad ?xt_InvalidLoad ?xb_UnknownPlace ?xd_UnknownPlace ?xt_UnknownPlace ?xb_UnknownBridge ?xd_UnknownBridge ?xt_UnknownBridge ?xb_UnknownKind ?xd_UnknownKind ?xt_UnknownKind ?xb_TooManyBridges ?xd_TooManyBridges ?xt_TooManyBridges ?xb_DifferentTowns ?xd_DifferentTowns ?xt_DifferentTowns ?xb_Contradiction ?xd_Contradiction ?xt_Contradiction ?xb_BridgeError ?xd_BridgeError ?xt_BridgeError ?pa_Town_bridges ?pb_Town_bridges ?pc_Town_bridges ?pd_Town_bridges ?pa_Town_place_count ?pb_Town_place_count ?pc_Town_place_count ?pd_Town_place_count ?pa_Town_lives ?pb_Town_lives ?pc_Town_lives ?pd_Town_lives ?g_MAX_LENGTH ?z_list ?z_range ?z_int ?z_max ?z_len ?z_tuple ?z_isinstance ?z_ValueError ?z_enumerate ?z_dict ?z_str ?z_bool ?bi_BridgeError ?kc_InvalidTown ?l_InvalidTown__init ?c_InvalidTown__init ?k_InvalidTown__init ?at_InvalidTown__init ?ty_InvalidTown__init ?sa_InvalidTown ?ox_InvalidTown ?bm_InvalidTown ?xa_InvalidTown ?xm_InvalidTown ?ss_InvalidTown_InvalidTown ?ss_InvalidTown_InvalidText ?ss_InvalidTown_InvalidTrips ?ss_InvalidTown_InvalidCount ?ss_InvalidTown_InvalidLife ?ss_InvalidTown_InvalidLoad ?ss_InvalidTown_UnknownPlace ?ss_InvalidTown_UnknownBridge ?ss_InvalidTown_UnknownKind ?ss_InvalidTown_TooManyBridges ?ss_InvalidTown_DifferentTowns ?ss_InvalidTown_Contradiction ?ss_InvalidTown_ValueError ?ss_InvalidTown_BridgeError ?sp_get ?sp_tak ?hcd ?lk ?v11 ?w11 ?v18 ?v7 ?v9 ?v10 ?nP
    (case aC_InvalidTrips => k_is)
    (case aC_InvalidText => k_is)
    (case aC_InvalidTown => k_is)
    (case aC_InvalidLoad => k_is)
    (case aC_InvalidLife => k_is)
    (case aC_InvalidCount => k_is)
    (case aC_UnknownKind => k_is)
    (case aC_UnknownBridge => k_is)
    (case aC_UnknownPlace => k_is)
    (case aC_Contradiction => k_is)
    (case aC_DifferentTowns => k_is)
    (case aC_TooManyBridges => k_is)
    (case aC_BridgeError => k_is)
    (case aC_Town => k_is)
    (case a_law_mix => k_is)
    (case a_law_next => k_is)
    (case a_law_life => k_is)
    (case a_law_links => k_is)
    (case a_law_spoilt => k_is)
    (case a_law_is_link => k_is)
    (case a_law_first_bad => k_is)
    (case a_law_error => k_is)
    (case a_law_alike => k_is)
    (case a_law => k_is)
    (case at_Town__init => k_is)
    (case at_InvalidTown__init => k_is)
    (case sa_Town_is_bridge => k_is)
    (case sa_InvalidTown => k_is)
    (case sr_Town_is_bridge => k_is)
    (case pa_Town_bridges => k_is)
    (case pa_Town_place_count => k_is)
    (case pa_Town_lives => k_is)
    (case pd_Town_bridges => k_is)
    (case pd_Town_place_count => k_is)
    (case pd_Town_lives => k_is)
    (case l_law_mix => k_is)
    (case c_law_mix => k_is)
    (case k_law_mix => k_is)
    (case l_law_next => k_is)
    (case c_law_next => k_is)
    (case k_law_next => k_is)
    (case l_law_life => k_is)
    (case c_law_life => k_is)
    (case k_law_life => k_is)
    (case l_law_links => k_is)
    (case c_law_links => k_is)
    (case k_law_links => k_is)
    (case l_law_spoilt => k_is)
    (case c_law_spoilt => k_is)
    (case k_law_spoilt => k_is)
    (case l_law_is_link => k_is)
    (case c_law_is_link => k_is)
    (case k_law_is_link => k_is)
    (case l_law_first_bad => k_is)
    (case c_law_first_bad => k_is)
    (case k_law_first_bad => k_is)
    (case l_law_error => k_is)
    (case c_law_error => k_is)
    (case k_law_error => k_is)
    (case l_Town_is_bridge => k_is)
    (case c_Town_is_bridge => k_is)
    (case k_Town_is_bridge => k_is)
    (case l_Town__init => k_is)
    (case c_Town__init => k_is)
    (case k_Town__init => k_is)
    (case fn_Town__init => k_is)
    (case l_law_alike => k_is)
    (case c_law_alike => k_is)
    (case k_law_alike => k_is)
    (case l_Town_bridges => k_is)
    (case c_Town_bridges => k_is)
    (case k_Town_bridges => k_is)
    (case l_Town_place_count => k_is)
    (case c_Town_place_count => k_is)
    (case k_Town_place_count => k_is)
    (case l_Town_lives => k_is)
    (case c_Town_lives => k_is)
    (case k_Town_lives => k_is)
    (case l_law => k_is)
    (case c_law => k_is)
    (case k_law => k_is)
    (case rd_Town => k_is)
    (case ga_Town => k_is)
    (case rd_BridgeError => k_is)
    (case ga_BridgeError => k_is)
    (case cv_Town_MAX_PLACES => k_is)
    (case cv_Town_MAX_LIFE => k_is)
    (case cv_Town_MAX_BRIDGES => k_is)
    (case pg_Town => k_is)
    (case hd_Town => k_is)
    (case po_Town => k_is)
    (case st_Town => k_is)
    (case mk_Town => k_is)
    (case kc_Town => k_is)
    (case na_InvalidTown_index => k_is)
    (case na_InvalidTown_part => k_is)
    (case na_InvalidText_row => k_is)
    (case na_InvalidTrips_index => k_is)
    (case na_Town_size => k_is)
    (case na_Town_links => k_is)
    (case xg_InvalidTown => k_is)
    (case xh_InvalidTown => k_is)
    (case xg_InvalidText => k_is)
    (case xh_InvalidText => k_is)
    (case xg_InvalidTrips => k_is)
    (case xh_InvalidTrips => k_is)
    (case xb_InvalidTown => k_is)
    (case xd_InvalidTown => k_is)
    (case xt_InvalidTown => k_is)
    (case xb_InvalidText => k_is)
    (case xd_InvalidText => k_is)
    (case xt_InvalidText => k_is)
    (case xb_InvalidTrips => k_is)
    (case xd_InvalidTrips => k_is)
    (case xt_InvalidTrips => k_is)
    (case xb_InvalidCount => k_is)
    (case xd_InvalidCount => k_is)
    (case xt_InvalidCount => k_is)
    (case xb_InvalidLife => k_is)
    (case xd_InvalidLife => k_is)
    (case xt_InvalidLife => k_is)
    (case xb_InvalidLoad => k_is)
    (case xd_InvalidLoad => k_is)
    (case xt_InvalidLoad => k_is)
    (case xb_UnknownPlace => k_is)
    (case xd_UnknownPlace => k_is)
    (case xt_UnknownPlace => k_is)
    (case xb_UnknownBridge => k_is)
    (case xd_UnknownBridge => k_is)
    (case xt_UnknownBridge => k_is)
    (case xb_UnknownKind => k_is)
    (case xd_UnknownKind => k_is)
    (case xt_UnknownKind => k_is)
    (case xb_TooManyBridges => k_is)
    (case xd_TooManyBridges => k_is)
    (case xt_TooManyBridges => k_is)
    (case xb_DifferentTowns => k_is)
    (case xd_DifferentTowns => k_is)
    (case xt_DifferentTowns => k_is)
    (case xb_Contradiction => k_is)
    (case xd_Contradiction => k_is)
    (case xt_Contradiction => k_is)
    (case xb_BridgeError => k_is)
    (case xd_BridgeError => k_is)
    (case xt_BridgeError => k_is)
    (case pb_Town_bridges => k_is)
    (case pc_Town_bridges => k_is)
    (case pb_Town_place_count => k_is)
    (case pc_Town_place_count => k_is)
    (case pb_Town_lives => k_is)
    (case pc_Town_lives => k_is)
    (case g_MAX_LENGTH => k_is)
    (case z_list => k_is)
    (case z_range => k_is)
    (case z_int => k_is)
    (case z_max => k_is)
    (case z_len => k_is)
    (case z_tuple => k_is)
    (case z_isinstance => k_is)
    (case z_ValueError => k_is)
    (case z_enumerate => k_is)
    (case z_dict => k_is)
    (case z_str => k_is)
    (case z_bool => k_is)
    (case bi_BridgeError => k_is)
    (case kc_InvalidTown => k_is)
    (case l_InvalidTown__init => k_is)
    (case c_InvalidTown__init => k_is)
    (case k_InvalidTown__init => k_is)
    (case ty_InvalidTown__init => k_is)
    (case ox_InvalidTown => k_is)
    (case bm_InvalidTown => rfl)
    (case xa_InvalidTown => k_is)
    (case xm_InvalidTown => k_is)
    (case ss_InvalidTown_InvalidTown => k_is)
    (case ss_InvalidTown_InvalidText => k_is)
    (case ss_InvalidTown_InvalidTrips => k_is)
    (case ss_InvalidTown_InvalidCount => k_is)
    (case ss_InvalidTown_InvalidLife => k_is)
    (case ss_InvalidTown_InvalidLoad => k_is)
    (case ss_InvalidTown_UnknownPlace => k_is)
    (case ss_InvalidTown_UnknownBridge => k_is)
    (case ss_InvalidTown_UnknownKind => k_is)
    (case ss_InvalidTown_TooManyBridges => k_is)
    (case ss_InvalidTown_DifferentTowns => k_is)
    (case ss_InvalidTown_Contradiction => k_is)
    (case ss_InvalidTown_ValueError => k_is)
    (case ss_InvalidTown_BridgeError => k_is)
    (case sp_get => k_is)
    (case sp_tak => k_is)
    (case hcd => rfl)
    (case lk => k_is)
    (case v11 => rfl)
    (case w11 => rfl)
    (case v18 => rfl)
    (case v7 => rfl)
    (case v9 => rfl)
    (case v10 => rfl)
    (case nP => first | rfl | decide +kernel)
