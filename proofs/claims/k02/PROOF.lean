import PyProof.Rows.All
import Wide.All
import OpenK.AllK
import Wide.FinOn
import HandS.ForMost
import HandS.ForExc
import HandS.Nested
import HandS.NestedK
import HandS.Lambda
import HandS.TupAny
import HandS.TupMul
import HandS.Conv
import HandS.IsInst
import HandS.Zip
import HandS.Wide
import HandS.ExcInit
import HandS.ExcIs
import HandS.ExcField
import HandS.Property
import HandS.ClsMeth
import HandS.MakeKwOnly
import HandS.CallLocal
import HandS.CallSlots
import HandS.TryMany
import HandS.Defaults
import HandS.Flow
import HandS.SetFor
import HandS.Walk
import HandS.Comp
import KE.KExcIs
import KE.GoesEnum
import PyProof.EnumMake
import HandS.EndOwn
import KE.KNest
import HandS.Style
import KE.KUnpackStar
import PySem.Challenge.RW_wornbridges_k02_whole_texts_of_towns
set_option Elab.async false
set_option linter.all false
/-! CL1: plain data, a store of changing objects, and the pieces (readings) of a program over them: total functions, no heap in sight. -/
namespace CL
open PySem

abbrev Key := Sum Int Str

inductive D where
  | non | bl (b : Bool) | int (i : Int) | str (s : Str) | byt (b : Array UInt8)
  | tup (xs : List D) | lst (xs : List D) | scr (ns : List Int)
  | dct (ks : List Key) (xs : List D)
  | obj (C : Addr) (ns : List Str) (xs : List D)
  | ptr (i : Nat) | ref (a : Addr) | ty (n : String)
  deriving Inhabited

/-- what stands in the store -/
inductive MO where
  | lst (xs : List D)
  | dct (ks : List Key) (xs : List D)
  | ins (C : Addr) (ns : List Str) (xs : List D)
abbrev Store := List MO
structure Exn where
  cls : Addr
  ns : List Str
  xs : List D
/-- a name's slot: nothing, a value, a list of its own, a dict of its own, the exception in hand -/
inductive SV where
  | u | d (x : D) | l (xs : List D) | m (ks : List Key) (xs : List D) | x (e : Exn) | f
abbrev Sl := List SV

inductive R (α : Type) where
  | ok (a : α) (S : Store) | exc (x : Exn) (S : Store) | bad
@[simp] def R.bind {α β : Type} (r : R α) (f : α → Store → R β) : R β := match r with
  | .ok a S => f a S
  | .exc x S => .exc x S
  | .bad => .bad
abbrev C (α : Type) := Sl → Store → R α
abbrev CE := C D
abbrev CT := C Bool
abbrev CA := C (List D)
/-- how a block ends -/
inductive O where
  | nx (s : Sl) (S : Store) | rt (d : D) (S : Store) | bk (s : Sl) (S : Store) | ct (s : Sl) (S : Store) | exc (x : Exn) (s : Sl) (S : Store) | bad
abbrev CS := Sl → Store → O
/-- a def on data -/
abbrev G := List D → Store → R D

/-! ### expressions -/
def slotD (v : Option SV) (S : Store) : R D := match v with
  | some (.d x) => .ok x S
  | _ => .bad
def cVar (i : Nat) : CE := fun s S => slotD s[i]? S
def cK (x : D) : CE := fun _ S => .ok x S
def cNo : CE := fun _ _ => .bad
def c1 (f : D → Store → R D) (a : CE) : CE := fun s S => (a s S).bind f
def c2 (f : D → D → Store → R D) (a b : CE) : CE := fun s S => (a s S).bind fun x S1 => (b s S1).bind fun y S2 => f x y S2
def aNil : CA := fun _ S => .ok [] S
def aCons (a : CE) (r : CA) : CA := fun s S => (a s S).bind fun x S1 => (r s S1).bind fun xs S2 => .ok (x :: xs) S2
/-- a call of something known on values -/
def cApp (f : List D → Store → R D) (a : CA) : CE := fun s S => (a s S).bind f
def cTup (a : CA) : CE := fun s S => (a s S).bind fun xs S1 => if xs.length ≤ 16777216 then .ok (.tup xs) S1 else .bad
def cLst (a : CA) : CE := fun s S => (a s S).bind fun xs S1 => if xs.length ≤ 16777216 then .ok (.lst xs) S1 else .bad
def tB (a : CE) : CT := fun s S => (a s S).bind fun x S1 => match x with
  | .bl b => .ok b S1
  | _ => .bad
def tNot (a : CT) : CT := fun s S => (a s S).bind fun b S1 => .ok (!b) S1
def tAnd (a b : CT) : CT := fun s S => (a s S).bind fun x S1 => if x then b s S1 else .ok false S1
def tOr (a b : CT) : CT := fun s S => (a s S).bind fun x S1 => if x then .ok true S1 else b s S1
def cIf (t : CT) (a b : CE) : CE := fun s S => (t s S).bind fun x S1 => if x then a s S1 else b s S1
/-- and, or as values; all but the last are truth values -/
def cAnd (a b : CE) : CE := fun s S => (a s S).bind fun x S1 => match x with
  | .bl c => if c then b s S1 else .ok (.bl false) S1
  | _ => .bad
def cOr (a b : CE) : CE := fun s S => (a s S).bind fun x S1 => match x with
  | .bl c => if c then .ok (.bl true) S1 else b s S1
  | _ => .bad
def cNot (a : CE) : CE := fun s S => (a s S).bind fun x S1 => match x with
  | .bl c => .ok (.bl (!c)) S1
  | _ => .bad
/-- a p b q c -/
def cChain (f g : D → D → Store → R D) (a b c : CE) : CE := fun s S => (a s S).bind fun x S1 => (b s S1).bind fun y S2 => (f x y S2).bind fun z S3 => match z with
  | .bl k => if k then (c s S3).bind fun w S4 => g y w S4 else .ok (.bl false) S3
  | _ => .bad

/-! ### operations on values -/
def oAdd : D → D → Store → R D
  | .int i, .int j, S => .ok (.int (i + j)) S
  | .str x, .str y, S => if x.length + y.length ≤ 16777216 then .ok (.str (x ++ y)) S else .bad
  | .tup xs, .tup ys, S => if xs.length + ys.length ≤ 16777216 then .ok (.tup (xs ++ ys)) S else .bad
  | .lst xs, .lst ys, S => if xs.length + ys.length ≤ 16777216 then .ok (.lst (xs ++ ys)) S else .bad
  | .ptr i, .lst ys, S => match S[i]? with
    | some (.lst xs) => if xs.length + ys.length ≤ 16777216 then .ok (.lst (xs ++ ys)) S else .bad
    | _ => .bad
  | _, _, _ => .bad
def oSub : D → D → Store → R D
  | .int i, .int j, S => .ok (.int (i - j)) S
  | _, _, _ => .bad
/-- one factor below 2 ^ 64 -/
def smallI (i : Int) : Bool := decide (-(2 ^ 64) < i) && decide (i < 2 ^ 64)
def oMul : D → D → Store → R D
  | .int i, .int j, S => if smallI i || smallI j then .ok (.int (i * j)) S else .bad
  | .tup xs, .int k, S => if xs ≠ [] ∧ 2 ≤ k ∧ k ≤ 1000 ∧ xs.length ≤ 1000 then .ok (.tup (List.replicate k.toNat xs).flatten) S else .bad
  | .lst xs, .int k, S => if -(2 ^ 63) ≤ k ∧ k < 2 ^ 63 ∧ xs.length * k.toNat ≤ 16777216 then .ok (.lst (List.replicate k.toNat xs).flatten) S else .bad
  | _, _, _ => .bad
def oMod : D → D → Store → R D
  | .int i, .int j, S => if 0 < j then .ok (.int (i % j)) S else .bad
  | _, _, _ => .bad
def oDiv : D → D → Store → R D
  | .int i, .int j, S => if 0 < j ∧ j.natAbs.log2 < 9000 then .ok (.int (i / j)) S else .bad
  | _, _, _ => .bad
def oPow : D → D → Store → R D
  | .int i, .int j, S => if 0 ≤ j ∧ j ≤ 1000000 ∧ i.natAbs < 2 ^ 64 then .ok (.int (i ^ j.toNat)) S else .bad
  | _, _, _ => .bad
def oNeg : D → Store → R D
  | .int i, S => .ok (.int (-i)) S
  | _, _ => .bad
def oCmp (p : Int → Int → Bool) : D → D → Store → R D
  | .int i, .int j, S => .ok (.bl (p i j)) S
  | _, _, _ => .bad
def oLt := oCmp fun i j => decide (i < j)
def oLe := oCmp fun i j => decide (i ≤ j)
def oGt := oCmp fun i j => decide (j < i)
def oGe := oCmp fun i j => decide (j ≤ i)
def isNon : D → Bool
  | .non => true
  | _ => false
def oIsN : D → Store → R D := fun x S => .ok (.bl (isNon x)) S
def oNotN : D → Store → R D := fun x S => .ok (.bl (!isNon x)) S

def xIsN : D → D → Store → R D := fun x y S => match y with
  | .non => oIsN x S
  | _ => .bad
def xNotN : D → D → Store → R D := fun x y S => match y with
  | .non => oNotN x S
  | _ => .bad

/-! ### equality of data -/
mutual
def toPy : D → Option PyData
  | .non => some .none
  | .bl b => some (.bool b)
  | .int i => some (.int i)
  | .str s => some (.str s)
  | .tup xs => (toPys xs).map .tuple
  | .lst xs => (toPys xs).map .list
  | .byt _ => none
  | .scr _ => none
  | .dct _ _ => none
  | .obj _ _ _ => none
  | .ptr _ => none
  | .ref _ => none
  | .ty _ => none
def toPys : List D → Option (List PyData)
  | [] => some []
  | x :: xs => match toPy x, toPys xs with
    | some d, some ds => some (d :: ds)
    | _, _ => none
end
/-- what stands behind a pointer to a list, as data -/
def look (S : Store) : D → D
  | .ptr i => match S[i]? with
    | some (.lst xs) => .lst xs
    | _ => .ptr i
  | x => x
def oEq (neg : Bool) : D → D → Store → R D := fun x y S => match toPy (look S x), toPy (look S y) with
  | some d, some e => if SeqAt.shaped d && SeqAt.shaped e then .ok (.bl (if neg then !PyData.eqv d e else PyData.eqv d e)) S else .bad
  | _, _ => .bad

/-- a list's greatest length -/
def fits (n : Nat) : Bool := decide (n ≤ 16777216)
/-! ### lists, tuples -/
/-- the items of a tuple, a list, the script -/
def itemsOf (S : Store) : D → Option (List D)
  | .tup xs => some xs
  | .lst xs => some xs
  | .scr ns => some (ns.map D.int)
  | .ptr i => match S[i]? with
    | some (.lst xs) => some xs
    | _ => none
  | _ => none
def oIx : D → D → Store → R D := fun x y S => match itemsOf S x, y with
  | some xs, .int i => match L2.atI xs i with
    | some v => .ok v S
    | none => .bad
  | _, _ => .bad
/-- t[a:b], a tuple, a list, a text; a part may lack -/
def cutL (xs : List D) (lo hi : Option Int) : List D := (xs.drop (HT.sIx xs.length 0 lo)).take (HT.sIx xs.length xs.length hi - HT.sIx xs.length 0 lo)
def oCut (x : D) (lo hi : Option Int) (S : Store) : R D := match x with
  | .tup xs => .ok (.tup (cutL xs lo hi)) S
  | .lst xs => .ok (.lst (cutL xs lo hi)) S
  | .str z => if z.length ≤ 16777216 then .ok (.str (L2.cutS z lo hi)) S else .bad
  | .ptr i => match S[i]? with
    | some (.lst xs) => .ok (.lst (cutL xs lo hi)) S
    | _ => .bad
  | _ => .bad
abbrev CO := C (Option Int)
def oNone : CO := fun _ S => .ok none S
def oSome (a : CE) : CO := fun s S => (a s S).bind fun x S1 => match x with
  | .int i => .ok (some i) S1
  | _ => .bad
def cCut (a : CE) (lo hi : CO) : CE := fun s S => (a s S).bind fun x S1 => (lo s S1).bind fun l S2 => (hi s S2).bind fun h S3 => oCut x l h S3

/-! ### built-ins -/
def bLen : List D → Store → R D := fun vs S => match vs with
  | [.str z] => if z.length ≤ 16777216 then .ok (.int z.length) S else .bad
  | [.byt b] => if b.size ≤ 16777216 then .ok (.int b.size) S else .bad
  | [x] => match itemsOf S x with
    | some xs => .ok (.int xs.length) S
    | none => .bad
  | _ => .bad
def bInt : List D → Store → R D := fun vs S => match vs with
  | [.int i] => .ok (.int i) S
  | [.bl b] => .ok (.int (if b then 1 else 0)) S
  | _ => .bad
def bMax2 : List D → Store → R D := fun vs S => match vs with
  | [.int i, .int j] => .ok (.int (if j > i then j else i)) S
  | _ => .bad
def bMin2 : List D → Store → R D := fun vs S => match vs with
  | [.int i, .int j] => .ok (.int (if j < i then j else i)) S
  | _ => .bad
def bList : List D → Store → R D := fun vs S => match vs with
  | [x] => match itemsOf S x with
    | some xs => .ok (.lst xs) S
    | none => .bad
  | _ => .bad
def bTuple : List D → Store → R D := fun vs S => match vs with
  | [.tup xs] => .ok (.tup xs) S
  | [.lst xs] => .ok (.tup xs) S
  | [.scr ns] => .ok (.tup (ns.map D.int)) S
  | [.ptr i] => match S[i]? with
    | some (.lst xs) => .ok (.tup xs) S
    | _ => .bad
  | _ => .bad
def bStrI : List D → Store → R D := fun vs S => match vs with
  | [.int i] => if i.natAbs.log2 < 1920 then .ok (.str (toString i)) S else .bad
  | _ => .bad
def intsOf : List D → Option (List Int)
  | [] => some []
  | .int i :: xs => (intsOf xs).map (i :: ·)
  | _ :: _ => none
def bSum : List D → Store → R D := fun vs S => match vs with
  | [x] => match (itemsOf S x).bind intsOf with
    | some ns => .ok (.int ns.sum) S
    | none => .bad
  | _ => .bad
/-- the built-in type of a datum -/
def tyOf (S : Store) : D → Option String
  | .non => some "NoneType"
  | .bl _ => some "bool"
  | .int _ => some "int"
  | .str _ => some "str"
  | .byt _ => some "bytes"
  | .tup _ => some "tuple"
  | .lst _ => some "list"
  | .scr _ => some "list"
  | .dct _ _ => some "dict"
  | .ptr i => match S[i]? with
    | some (.lst _) => some "list"
    | some (.dct _ _) => some "dict"
    | _ => none
  | _ => none
/-- isinstance(x, T), T a built-in type or a tuple of such -/
def bIsi : List D → Store → R D := fun vs S => match vs with
  | [x, .ty t] => match (tyOf S x).bind fun a => L2.kitB a t with
    | some b => .ok (.bl b) S
    | none => .bad
  | [x, .tup ts] => match tyOf S x with
    | some a => match kits a ts with
      | some b => .ok (.bl b) S
      | none => .bad
    | none => .bad
  | _ => .bad
where
  kits (a : String) : List D → Option Bool
    | [] => some false
    | .ty t :: ts => match L2.kitB a t, kits a ts with
      | some b, some c => some (b || c)
      | _, _ => none
    | _ => none
/-! ### calls -/
def cCall (g : G) (a : CA) : CE := cApp g a
/-- the def's body run on its arguments -/
def run (n : Nat) (b : CS) : G := fun ds S => match b (ds.map SV.d ++ List.replicate (n - ds.length) SV.u) S with
  | .nx _ S' => .ok .non S'
  | .rt d S' => .ok d S'
  | .exc x _ S' => .exc x S'
  | _ => .bad
/-- an attribute of an instance -/
def fieldOf (S : Store) (x : D) (f : Str) : Option D := match x with
  | .obj _ ns xs => (ns.zip xs).lookup f
  | .ptr i => match S[i]? with
    | some (.ins _ ns xs) => (ns.zip xs).lookup f
    | _ => none
  | _ => none
/-- its class, its attributes' names -/
def classOf (S : Store) (x : D) : Option (Addr × List Str) := match x with
  | .obj C ns _ => some (C, ns)
  | .ptr i => match S[i]? with
    | some (.ins C ns _) => some (C, ns)
    | _ => none
  | _ => none
def cFld (C : Addr) (f : Str) (a : CE) : CE := fun s S => (a s S).bind fun x S1 => match classOf S1 x, fieldOf S1 x f with
  | some (C', _), some v => if C' = C then .ok v S1 else .bad
  | _, _ => .bad
/-- o.m(..), m a method of the class at C -/
def cMeth (C : Addr) (m : Str) (g : G) (o : CE) (a : CA) : CE := fun s S => (o s S).bind fun x S1 => match classOf S1 x with
  | some (C', ns) => if C' = C ∧ m ∉ ns then (a s S1).bind fun xs S2 => g (x :: xs) S2 else .bad
  | none => .bad
/-- o.p, p a property -/
def cProp (C : Addr) (g : G) (o : CE) : CE := fun s S => (o s S).bind fun x S1 => match classOf S1 x with
  | some (C', _) => if C' = C then g [x] S1 else .bad
  | none => .bad
/-- C(..): a new object of the store, made by g; it stays there -/
def cMake (C : Addr) (g : G) (a : CA) : CE := fun s S => (a s S).bind fun xs S1 => (g (.ptr S1.length :: xs) (S1 ++ [.ins C [] []])).bind fun r S2 => match r with
  | .non => .ok (.ptr S1.length) S2
  | _ => .bad

/-! ### statements -/
def oDo {α : Type} (r : R α) (z : Sl) (f : α → Store → O) : O := match r with
  | .ok a S => f a S
  | .exc x S => .exc x z S
  | .bad => .bad
def sNil : CS := fun z S => .nx z S
def sSeq (a b : CS) : CS := fun z S => match a z S with
  | .nx z' S' => b z' S'
  | o => o
def sBreak : CS := fun z S => .bk z S
def sCont : CS := fun z S => .ct z S
def sSet (i : Nat) (c : CE) : CS := fun z S => oDo (c z S) z fun d S' => .nx (z.set i (.d d)) S'
def sExpr (c : CE) : CS := fun z S => oDo (c z S) z fun _ S' => .nx z S'
def sRet (c : CE) : CS := fun z S => oDo (c z S) z fun d S' => .rt d S'
def sRetN : CS := fun _ S => .rt .non S
def sIf (t : CT) (a b : CS) : CS := fun z S => oDo (t z S) z fun c S' => if c then a z S' else b z S'
def sNever : CS := fun _ _ => .bad
/-- a target: a name, a tuple of targets -/
abbrev Tg := D → Sl → Option Sl
abbrev Tgs := List D → Sl → Option Sl
def gN (i : Nat) : Tg := fun d z => some (z.set i (.d d))
def gNil : Tgs := fun ds z => match ds with
  | [] => some z
  | _ => none
def gCons (g : Tg) (r : Tgs) : Tgs := fun ds z => match ds with
  | d :: ds => (g d z).bind (r ds)
  | [] => none
def gTup (n : Nat) (g : Tgs) : Tg := fun d z => match d with
  | .tup xs => if xs.length = n then g xs z else none
  | _ => none
def sAsg (c : CE) (g : Tg) : CS := fun z S => oDo (c z S) z fun d S' => match g d z with
  | some z' => .nx z' S'
  | none => .bad
/-- a, b = x, y -/
def sPar (i j : Nat) (a : CA) : CS := fun z S => oDo (a z S) z fun ds S' => match ds with
  | [x, y] => .nx ((z.set i (.d x)).set j (.d y)) S'
  | _ => .bad
/-- x = a new list, which is x's own from now on -/
def sSetL (i : Nat) (c : CE) : CS := fun z S => oDo (c z S) z fun d S' => match d with
  | .lst xs => .nx (z.set i (.l xs)) S'
  | _ => .bad
/-- x = a new list, which is the store's -/
def sSetP (i : Nat) (c : CE) : CS := fun z S => oDo (c z S) z fun d S' => match d with
  | .lst xs => .nx (z.set i (.d (.ptr S'.length))) (S' ++ [.lst xs])
  | _ => .bad
/-- an own list becomes a value that never changes -/
def sFrz (i : Nat) (c : CS) : CS := fun z S => match z[i]? with
  | some (.l xs) => c (z.set i (.d (.lst xs))) S
  | _ => .bad
def sAppend (i : Nat) (c : CE) : CS := fun z S => match z[i]? with
  | some (.l xs) => oDo (c z S) z fun d S' => if xs.length < 16777216 then .nx (z.set i (.l (xs ++ [d]))) S' else .bad
  | _ => .bad
def sExtend (i : Nat) (c : CE) : CS := fun z S => match z[i]? with
  | some (.l xs) => oDo (c z S) z fun d S' => match d with
    | .lst ys => if xs.length + ys.length ≤ 16777216 then .nx (z.set i (.l (xs ++ ys))) S' else .bad
    | _ => .bad
  | _ => .bad
/-- o.append(e), o in the store -/
def cAppendP (o c : CE) : CE := fun z S => (o z S).bind fun p S1 => match p with
  | .ptr j => match S1[j]? with
    | some (.lst _) => (c z S1).bind fun d S2 => match S2[j]? with
      | some (.lst xs) => if xs.length < 16777216 then .ok .non (S2.set j (.lst (xs ++ [d]))) else .bad
      | _ => .bad
    | _ => .bad
  | _ => .bad
/-- o[k] = v, o a list of the store -/
def sItem (o k v : CE) : CS := fun z S => oDo (v z S) z fun d S1 => oDo (o z S1) z fun p S2 => oDo (k z S2) z fun i S3 => match p, i with
  | .ptr j, .int i => match S3[j]? with
    | some (.lst xs) => match L2.ixN xs.length i with
      | some n => .nx z (S3.set j (.lst (xs.set n d)))
      | none => .bad
    | _ => .bad
  | _, _ => .bad
/-- x[k] = v, x a list of its own -/
def sItemL (i : Nat) (k v : CE) : CS := fun z S => match z[i]? with
  | some (.l xs) => oDo (v z S) z fun d S1 => oDo (k z S1) z fun n S2 => match n with
    | .int n => match L2.ixN xs.length n with
      | some m => .nx (z.set i (.l (xs.set m d))) S2
      | none => .bad
    | _ => .bad
  | _ => .bad
def putN {α : Type} (f : Str) (v : α) : List Str → List α → List Str × List α
  | n :: ns, x :: xs => if n = f then (n :: ns, v :: xs) else (n :: (putN f v ns xs).1, x :: (putN f v ns xs).2)
  | _, _ => ([f], [v])
/-- o.f = v, o an object of the store -/
def sField (C : Addr) (f : Str) (o v : CE) : CS := fun z S => oDo (v z S) z fun d S1 => oDo (o z S1) z fun p S2 => match p with
  | .ptr j => match S2[j]? with
    | some (.ins C' ns xs) => if C' = C ∧ ns.length < 1000 then .nx z (S2.set j (.ins C (putN f d ns xs).1 (putN f d ns xs).2)) else .bad
    | _ => .bad
  | _ => .bad
/-- for -/
def loop (g : Tg) (b : CS) : List D → Sl → Store → O
  | [], z, S => .nx z S
  | d :: ds, z, S => match g d z with
    | none => .bad
    | some z1 => match b z1 S with
      | .nx z2 S2 => loop g b ds z2 S2
      | .ct z2 S2 => loop g b ds z2 S2
      | .bk z2 S2 => .nx z2 S2
      | o => o
def sFor (it : CA) (g : Tg) (b : CS) : CS := fun z S => oDo (it z S) z fun ds S' => loop g b ds z S'
/-- while, at most n turns -/
def wloop (t : CT) (b : CS) : Nat → Sl → Store → O
  | 0, _, _ => .bad
  | n + 1, z, S => oDo (t z S) z fun c S1 => if c then match b z S1 with
      | .nx z2 S2 => wloop t b n z2 S2
      | .ct z2 S2 => wloop t b n z2 S2
      | .bk z2 S2 => .nx z2 S2
      | o => o
    else .nx z S1
def sWhile (n : Nat) (t : CT) (b : CS) : CS := wloop t b n
/-! ### what a for walks -/
def iSeq (c : CE) : CA := fun z S => (c z S).bind fun d S' => match d with
  | .tup xs => .ok xs S'
  | .lst xs => .ok xs S'
  | .scr ns => .ok (ns.map D.int) S'
  | _ => .bad
/-- the bounds of a range -/
def in62 (n : Int) : Bool := decide (n.natAbs.log2 < 62)
theorem in62_of {n : Int} (h : n.natAbs < 2 ^ 62) : in62 n = true := by
  unfold in62
  by_cases h0 : n.natAbs = 0
  · rw [h0]; decide +kernel
  · rw [decide_eq_true_eq]; exact (Nat.log2_lt h0).mpr h
theorem in62_iff {n : Int} (h : in62 n = true) : -(2 ^ 62) ≤ n ∧ n < 2 ^ 62 := by
  unfold in62 at h
  rw [decide_eq_true_eq] at h
  have e : (2 : Int) ^ 62 = 4611686018427387904 := by rfl
  have e2 : (2 : Nat) ^ 62 = 4611686018427387904 := by rfl
  rw [e]
  by_cases h0 : n.natAbs = 0
  · omega
  · have := (Nat.log2_lt h0).mp h
    rw [e2] at this
    omega
def iRange1 (c : CE) : CA := fun z S => (c z S).bind fun d S' => match d with
  | .int n => if in62 n then .ok ((List.range n.toNat).map fun (k : Nat) => D.int (0 + (k : Int))) S' else .bad
  | _ => .bad
def iRange2 (a b : CE) : CA := fun z S => (a z S).bind fun d S1 => (b z S1).bind fun e S2 => match d, e with
  | .int i, .int j => if in62 i && in62 j then .ok ((List.range (j - i).toNat).map fun (k : Nat) => D.int (i + (k : Int))) S2 else .bad
  | _, _ => .bad
def enumD (xs : List D) : List D := xs.zipIdx.map fun p => D.tup [.int (p.2 : Nat), p.1]
def iEnum (c : CE) : CA := fun z S => (c z S).bind fun d S' => match d with
  | .tup xs => .ok (enumD xs) S'
  | .lst xs => .ok (enumD xs) S'
  | _ => .bad
/-! ### comprehensions -/
/-- the comprehension's own names are wiped -/
def wipeD (z : Sl) : List Nat → Sl
  | [] => z
  | v :: vs => (wipeD z vs).set v .u
/-- a turn's value, if the test lets it: the exceptions do not leave -/
def lcGo (g : Tg) (t : CT) (e : CE) (z : Sl) : List D → Store → List D → R (List D)
  | [], S, acc => .ok acc S
  | d :: ds, S, acc => match g d z with
    | none => .bad
    | some z1 => match t z1 S with
      | .ok true S1 => match e z1 S1 with
        | .ok x S2 => if acc.length < 16777216 then lcGo g t e z ds S2 (acc ++ [x]) else .bad
        | _ => .bad
      | .ok false S1 => lcGo g t e z ds S1 acc
      | _ => .bad
def tYesC : CT := fun _ S => .ok true S
def cLc (it : CA) (g : Tg) (t : CT) (e : CE) (vs : List Nat) : CE := fun z S => (it z S).bind fun ds S1 => (lcGo g t e (wipeD z vs) ds S1 []).bind fun xs S2 => .ok (.lst xs) S2
/-- C.NAME, a constant of the class at C -/
def cVal (C : Addr) (v : D) (o : CE) : CE := fun z S => (o z S).bind fun d S1 => match d with
  | .ref a => if a = C then .ok v S1 else .bad
  | _ => .bad
/-- C.m(..), m a static method of the class at C -/
def cStat (C : Addr) (g : G) (o : CE) (a : CA) : CE := fun z S => (o z S).bind fun d S1 => match d with
  | .ref b => if b = C then (a z S1).bind g else .bad
  | _ => .bad
end CL
set_option Elab.async false
set_option linter.all false
set_option maxRecDepth 100000
/-! CL2: how plain data stand in the abstract heap; the readings of pieces; the first lemmas. -/
namespace CL
open PySem PySem.Spec PyProof.Rows L2
/-- the written part that the walk stands on -/
class TheK where
  K : PySem.W.Frag
variable [TheK]
/-- a list of ints of the written part -/
def KLst (a : Addr) (ns : List Int) : Prop := ∃ (o : Obj) (its : Array Value) (n : Nat), TheK.K.lookup a = some o ∧ o.cls = .type "list" ∧ o.dict = none ∧ o.data = .seq its n ∧ its.size ≤ sizeLine ∧ Vals (ns.map V.int) its.toList

mutual
/-- v stands for the datum: i: where the store's objects stand; B: the part of the heap that never changes -/
def Rp (I : List Addr) (B : Hp) (v : V) : D → Prop
  | .non => v = .non
  | .bl b => v = .bl b
  | .int i => v = .int i
  | .str s => v = .str s
  | .byt b => v = .byt b
  | .tup xs => ∃ a vs, v = .ref a ∧ B a = some (.tup vs) ∧ Rps I B vs xs
  | .lst xs => ∃ a vs, v = .ref a ∧ B a = some (.lst vs) ∧ Rps I B vs xs
  | .scr ns => ∃ a, v = .ref a ∧ (Rd B a (.lst (ns.map V.int)) ∨ KLst a ns)
  | .dct ks xs => ∃ a vs, v = .ref a ∧ B a = some (.dK (ks.zip vs)) ∧ ks.length = vs.length ∧ Rps I B vs xs
  | .obj C ns xs => ∃ a dx vs, v = .ref a ∧ B a = some (.ins C dx (ns.zip vs)) ∧ ns.length = vs.length ∧ Rps I B vs xs
  | .ptr i => ∃ a, I[i]? = some a ∧ v = .ref a
  | .ref a => v = .ref a
  | .ty n => v = .ty n
def Rps (I : List Addr) (B : Hp) : List V → List D → Prop
  | [], [] => True
  | v :: vs, x :: xs => Rp I B v x ∧ Rps I B vs xs
  | [], _ :: _ => False
  | _ :: _, [] => False
end
theorem Rps.len {I : List Addr} {B : Hp} : ∀ {vs : List V} {xs : List D}, Rps I B vs xs → vs.length = xs.length
  | [], [], _ => rfl
  | v :: vs, x :: xs, h => by
    have := Rps.len (vs := vs) (xs := xs) h.2
    simp [this]
  | [], _ :: _, h => h.elim
  | _ :: _, [], h => h.elim
theorem Rps.get {I : List Addr} {B : Hp} : ∀ {vs : List V} {xs : List D} {j : Nat} {x : D}, Rps I B vs xs → xs[j]? = some x → ∃ v, vs[j]? = some v ∧ Rp I B v x
  | [], [], j, x, _, e => by simp at e
  | v :: vs, y :: xs, 0, x, h, e => by
    simp at e; subst e
    exact ⟨v, rfl, h.1⟩
  | v :: vs, y :: xs, j + 1, x, h, e => by
    obtain ⟨u, h1, h2⟩ := Rps.get (j := j) h.2 (by simpa using e)
    exact ⟨u, by simpa using h1, h2⟩
  | [], _ :: _, _, _, h, _ => h.elim
  | _ :: _, [], _, _, h, _ => h.elim
theorem Rps.append {I : List Addr} {B : Hp} : ∀ {vs ws : List V} {xs ys : List D}, Rps I B vs xs → Rps I B ws ys → Rps I B (vs ++ ws) (xs ++ ys)
  | [], ws, [], ys, _, h => h
  | v :: vs, ws, x :: xs, ys, h, k => ⟨h.1, Rps.append h.2 k⟩
  | [], _, _ :: _, _, h, _ => h.elim
  | _ :: _, _, [], _, h, _ => h.elim
theorem Rps.take {I : List Addr} {B : Hp} : ∀ {vs : List V} {xs : List D} (n : Nat), Rps I B vs xs → Rps I B (vs.take n) (xs.take n)
  | [], [], n, _ => by simp [Rps]
  | v :: vs, x :: xs, 0, h => by simp [Rps]
  | v :: vs, x :: xs, n + 1, h => ⟨h.1, Rps.take n h.2⟩
  | [], _ :: _, _, h => h.elim
  | _ :: _, [], _, h => h.elim
theorem Rps.drop {I : List Addr} {B : Hp} : ∀ {vs : List V} {xs : List D} (n : Nat), Rps I B vs xs → Rps I B (vs.drop n) (xs.drop n)
  | [], [], n, _ => by simp [Rps]
  | v :: vs, x :: xs, 0, h => h
  | v :: vs, x :: xs, n + 1, h => Rps.drop n h.2
  | [], _ :: _, _, h => h.elim
  | _ :: _, [], _, h => h.elim
theorem Rps.set {I : List Addr} {B : Hp} {u : V} {y : D} (r : Rp I B u y) : ∀ {vs : List V} {xs : List D} (n : Nat), Rps I B vs xs → Rps I B (vs.set n u) (xs.set n y)
  | [], [], n, _ => by simp [Rps]
  | v :: vs, x :: xs, 0, h => ⟨r, h.2⟩
  | v :: vs, x :: xs, n + 1, h => ⟨h.1, Rps.set r n h.2⟩
  | [], _ :: _, _, h => h.elim
  | _ :: _, [], _, h => h.elim
theorem Rps.ints {I : List Addr} {B : Hp} : ∀ ns : List Int, Rps I B (ns.map V.int) (ns.map D.int)
  | [] => trivial
  | n :: ns => ⟨rfl, Rps.ints ns⟩

/-! ### growing -/
mutual
theorem Rp.mono {I J : List Addr} {B B' : Hp} (p : ∃ k, J = I ++ k) (e : ∀ a o, B a = some o → B' a = some o) : ∀ {v : V} (x : D), Rp I B v x → Rp J B' v x
  | v, .non, h => h
  | v, .bl _, h => h
  | v, .int _, h => h
  | v, .str _, h => h
  | v, .byt _, h => h
  | v, .tup xs, ⟨a, vs, h1, h2, h3⟩ => ⟨a, vs, h1, e _ _ h2, Rps.mono p e xs h3⟩
  | v, .lst xs, ⟨a, vs, h1, h2, h3⟩ => ⟨a, vs, h1, e _ _ h2, Rps.mono p e xs h3⟩
  | v, .scr ns, ⟨a, h1, h2⟩ => ⟨a, h1, h2.imp (fun h2 => h2.elim (fun z => .inl (e _ _ z)) fun ⟨o, z⟩ => .inr ⟨o, e _ _ z⟩) id⟩
  | v, .dct ks xs, ⟨a, vs, h1, h2, h3, h4⟩ => ⟨a, vs, h1, e _ _ h2, h3, Rps.mono p e xs h4⟩
  | v, .obj C ns xs, ⟨a, dx, vs, h1, h2, h3, h4⟩ => ⟨a, dx, vs, h1, e _ _ h2, h3, Rps.mono p e xs h4⟩
  | v, .ptr i, ⟨a, h1, h2⟩ => ⟨a, by
      obtain ⟨k, rfl⟩ := p
      rw [List.getElem?_append_left (List.getElem?_eq_some_iff.mp h1).1]
      exact h1, h2⟩
  | v, .ref _, h => h
  | v, .ty _, h => h
theorem Rps.mono {I J : List Addr} {B B' : Hp} (p : ∃ k, J = I ++ k) (e : ∀ a o, B a = some o → B' a = some o) : ∀ {vs : List V} (xs : List D), Rps I B vs xs → Rps J B' vs xs
  | [], [], _ => trivial
  | _ :: _, x :: xs, h => ⟨Rp.mono p e x h.1, Rps.mono p e xs h.2⟩
  | [], _ :: _, h => h.elim
  | _ :: _, [], h => h.elim
end

/-- an object of the store -/
def RpM (I : List Addr) (B : Hp) (o : HO) : MO → Prop
  | .lst xs => ∃ vs, o = .lst vs ∧ Rps I B vs xs
  | .dct ks xs => ∃ vs, o = .dK (ks.zip vs) ∧ ks.length = vs.length ∧ Rps I B vs xs
  | .ins C ns xs => ∃ dx vs, o = .ins C dx (ns.zip vs) ∧ ns.length = vs.length ∧ Rps I B vs xs
theorem RpM.mono {I J : List Addr} {B B' : Hp} {o : HO} (p : ∃ k, J = I ++ k) (e : ∀ a o, B a = some o → B' a = some o) : ∀ {m : MO}, RpM I B o m → RpM J B' o m
  | .lst xs, ⟨vs, h1, h2⟩ => ⟨vs, h1, h2.mono p e⟩
  | .dct ks xs, ⟨vs, h1, h2, h3⟩ => ⟨vs, h1, h2, h3.mono p e⟩
  | .ins C ns xs, ⟨dx, vs, h1, h2, h3⟩ => ⟨dx, vs, h1, h2, h3.mono p e⟩

/-- nothing stands there, or a table -/
def Fr (H : Hp) (a : Addr) : Prop := ∀ o, H a = some o → ∃ ps, o = HO.tbl ps
theorem Fr.of {H : Hp} {a : Addr} (h : H a = none) : Fr H a := fun o e => by rw [h] at e; cases e
theorem Fr.no {H : Hp} {a : Addr} {o : HO} (h : Fr H a) (e : H a = some o) (n : ∀ ps, o ≠ .tbl ps) : False := by
  obtain ⟨ps, q⟩ := h o e
  exact n ps q
theorem Fr.down {H : Hp} {a b : Addr} {u : HO} (h : Fr (upd H a u) b) (h0 : b = a → Fr H b) : Fr H b := fun o e => by
  by_cases q : b = a
  · exact h0 q o e
  · exact h o (by rw [upd_ne q]; exact e)
/-- from one state to a later one -/
structure Gr (I : List Addr) (B H : Hp) (J : List Addr) (B' H' : Hp) : Prop where
  pre : ∃ k, J = I ++ k ∧ ∀ a ∈ k, Fr H a
  ext : ∀ a o, B a = some o → B' a = some o
  new : ∀ a o, B' a = some o → B a = some o ∨ Fr H a
  keep : ∀ a o, H a = some o → a ∉ I → (∀ ps, o ≠ .tbl ps) → H' a = some o
  dom : ∀ a, Fr H' a → Fr H a
theorem Gr.refl (I : List Addr) (B H : Hp) : Gr I B H I B H := ⟨⟨[], by simp, by simp⟩, fun _ _ h => h, fun _ _ h => .inl h, fun _ _ h _ _ => h, fun _ h => h⟩
theorem Gr.sub {I J : List Addr} {B H B' H' : Hp} (g : Gr I B H J B' H') : ∃ k, J = I ++ k := let ⟨k, h, _⟩ := g.pre; ⟨k, h⟩
theorem Gr.trans {I J L : List Addr} {B H B' H' B2 H2 : Hp} (g : Gr I B H J B' H') (k : Gr J B' H' L B2 H2) : Gr I B H L B2 H2 := by
  obtain ⟨k1, rfl, f1⟩ := id g.pre
  obtain ⟨k2, rfl, f2⟩ := k.pre
  refine ⟨⟨k1 ++ k2, by simp, fun a ha => ?_⟩, fun a o h => k.ext a o (g.ext a o h), fun a o h => ?_, fun a o h n t => ?_, fun a h => g.dom a (k.dom a h)⟩
  · rcases List.mem_append.mp ha with h | h
    · exact f1 a h
    · exact g.dom a (f2 a h)
  · rcases k.new a o h with h | h
    · exact g.new a o h
    · exact .inr (g.dom a h)
  · refine k.keep a o (g.keep a o h n t) (fun hm => ?_) t
    rcases List.mem_append.mp hm with h' | h'
    · exact n h'
    · exact (f1 a h').no h t
theorem Rp.gr {I J : List Addr} {B H B' H' : Hp} {v : V} {x : D} (h : Rp I B v x) (g : Gr I B H J B' H') : Rp J B' v x := h.mono g.sub g.ext
theorem Rps.gr {I J : List Addr} {B H B' H' : Hp} {v : List V} {x : List D} (h : Rps I B v x) (g : Gr I B H J B' H') : Rps J B' v x := h.mono g.sub g.ext

/-- tables of code objects; code objects -/
abbrev Tl := List NdefX.NTab × List (Addr × Str)
def TbOk (L : Tl) (H : Hp) : Prop := NdefX.TabsN L.1 H ∧ ∀ p ∈ L.2, H p.1 = some (LamX.CodeO p.1 p.2)
theorem TbOk.ext {L : Tl} {H H' : Hp} (t : TbOk L H) (e : ∀ b o, H b = some o → H' b = some o) : TbOk L H' := ⟨t.1.ext e, fun p hp => e _ _ (t.2 p hp)⟩
theorem Gr.more {I J : List Addr} {B H B' H' H2 : Hp} (g : Gr I B H J B' H') (k : ∀ a o, H' a = some o → H2 a = some o) : Gr I B H J B' H2 where
  pre := g.pre
  ext := g.ext
  new := g.new
  keep := fun a o h n t => k a o (g.keep a o h n t)
  dom := fun a h => g.dom a fun o e => h o (k a o e)
/-- an object is laid down for good -/
theorem Gr.lay {I J : List Addr} {B H B' H' : Hp} {p : Addr} {o : HO} (g : Gr I B H J B' H') (h0 : Fr H p) (hb : B' p = none) : Gr I B H J (upd B' p o) H' where
  pre := g.pre
  ext := fun c u q => by
    have ne : c ≠ p := fun e => by
      subst e
      have := g.ext _ _ q
      rw [hb] at this; cases this
    rw [upd_ne ne]; exact g.ext c u q
  new := fun c u q => by
    by_cases e : c = p
    · exact .inr (e ▸ h0)
    · rw [upd_ne e] at q; exact g.new c u q
  keep := g.keep
  dom := g.dom
/-- what stays: the tables of code objects; the exception in hand -/
structure Pm where
  tabs : Tl
  xa : Option (Addr × Value × Option Addr)
  fn : Option (Addr × List Addr × Hp × Hp)
variable (L : Tl) (T : Pm)
/-- the store stands -/
structure Sto (I : List Addr) (B H : Hp) (S : Store) : Prop where
  len : I.length = S.length
  nd : I.Nodup
  dj : ∀ a ∈ I, B a = none
  sub : ∀ a o, B a = some o → H a = some o
  nt : ∀ a o, B a = some o → ∀ ps, o ≠ .tbl ps
  at_ : ∀ (i : Nat) (m : MO), S[i]? = some m → ∃ a o, I[i]? = some a ∧ H a = some o ∧ RpM I B o m
  tb : TbOk L H
def RpX (I : List Addr) (B : Hp) (c : Value) (dd : Option Addr) (e : Exn) : Prop := c = .ref e.cls ∧
  ((e.ns = [] ∧ dd = none) ∨ ∃ a vs, dd = some a ∧ B a = some (.xd (e.ns.zip vs)) ∧ e.ns.length = vs.length ∧ Rps I B vs e.xs)
theorem RpX.mono {I J : List Addr} {B B' : Hp} {c : Value} {d : Option Addr} {e : Exn} (p : ∃ k, J = I ++ k) (k : ∀ a o, B a = some o → B' a = some o) (h : RpX I B c d e) : RpX J B' c d e := ⟨h.1, h.2.elim .inl fun ⟨a, vs, h1, h2, h3, h4⟩ => .inr ⟨a, vs, h1, k _ _ h2, h3, Rps.mono p k e.xs h4⟩⟩
/-- an own object -/
def Own (H0 : Hp) (I : List Addr) (B : Hp) (a : Addr) : Prop := Fr H0 a ∧ B a = none ∧ a ∉ I
def SlotOk (T : Pm) (H0 : Hp) (I : List Addr) (B H : Hp) (o : Option V) : SV → Prop
  | .u => True
  | .d x => ∃ v, o = some v ∧ Rp I B v x
  | .l xs => ∃ a vs, o = some (.ref a) ∧ H a = some (.lst vs) ∧ Rps I B vs xs ∧ Own H0 I B a
  | .m ks xs => ∃ a vs, o = some (.ref a) ∧ H a = some (.dK (ks.zip vs)) ∧ ks.length = vs.length ∧ Rps I B vs xs ∧ Own H0 I B a
  | .f => ∃ a I1 B1 H1, T.fn = some (a, I1, B1, H1) ∧ o = some (.ref a) ∧ Gr I1 B1 H1 I B H ∧ ∀ b, Fr H0 b → Fr H1 b
  | .x e => ∃ a d, T.xa = some (a, .ref e.cls, d) ∧ o = some (.ref a) ∧ RpX I B (.ref e.cls) d e
def isOwn : SV → Bool
  | .l _ => true
  | .m _ _ => true
  | _ => false
structure Slt (H0 : Hp) (I : List Addr) (B H : Hp) (s : L2.St) (z : Sl) : Prop where
  len : s.length = z.length
  ok : ∀ (i : Nat) (o : Option V) (x : SV), s[i]? = some o → z[i]? = some x → SlotOk T H0 I B H o x
  ne : ∀ (i j : Nat) (a : Addr) (x y : SV), s[i]? = some (some (V.ref a)) → s[j]? = some (some (V.ref a)) → z[i]? = some x → z[j]? = some y → isOwn x = true → isOwn y = true → i = j
structure At (H0 : Hp) (I : List Addr) (B H : Hp) (s : L2.St) (z : Sl) (S : Store) : Prop where
  sl : Slt T H0 I B H s z
  st : Sto T.tabs I B H S
variable {L} {T}
theorem SlotOk.gr {H0 : Hp} {I J : List Addr} {B H B' H' : Hp} {o : Option V} {x : SV} (g : Gr I B H J B' H') (h : SlotOk T H0 I B H o x) : SlotOk T H0 J B' H' o x := by
  have own : ∀ {a : Addr} {u : HO}, H a = some u → Own H0 I B a → (∀ ps, u ≠ .tbl ps) → H' a = some u ∧ Own H0 J B' a := fun {a u} ha ⟨h1, h2, h3⟩ nt => by
    obtain ⟨k, e, f⟩ := g.pre
    refine ⟨g.keep a u ha h3 nt, h1, ?_, fun hm => ?_⟩
    · cases q : B' a with
      | none => rfl
      | some w =>
        rcases g.new a w q with z | z
        · rw [h2] at z; cases z
        · exact (z.no ha nt).elim
    · rw [e] at hm
      rcases List.mem_append.mp hm with z | z
      · exact h3 z
      · exact (f a z).no ha nt
  cases x with
  | u => trivial
  | d x => obtain ⟨v, e, r⟩ := h; exact ⟨v, e, r.gr g⟩
  | l xs =>
    obtain ⟨a, vs, e, ha, r, ow⟩ := h
    obtain ⟨q1, q2⟩ := own ha ow (fun ps z => by cases z)
    exact ⟨a, vs, e, q1, r.gr g, q2⟩
  | m ks xs =>
    obtain ⟨a, vs, e, ha, hl, r, ow⟩ := h
    obtain ⟨q1, q2⟩ := own ha ow (fun ps z => by cases z)
    exact ⟨a, vs, e, q1, hl, r.gr g, q2⟩
  | f =>
    obtain ⟨a, I1, B1, H1, h1, h2, h3, h4⟩ := h
    exact ⟨a, I1, B1, H1, h1, h2, h3.trans g, h4⟩
  | x e =>
    obtain ⟨a, d, h1, h2, h3⟩ := h
    exact ⟨a, d, h1, h2, h3.mono g.sub g.ext⟩
theorem Slt.gr {H0 : Hp} {I J : List Addr} {B H B' H' : Hp} {s : L2.St} {z : Sl} (g : Gr I B H J B' H') (h : Slt T H0 I B H s z) : Slt T H0 J B' H' s z :=
  ⟨h.len, fun i o x h1 h2 => (h.ok i o x h1 h2).gr g, h.ne⟩

/-! ### readings -/
variable (L) (T)
/-- what is wished of the end of a piece -/
def Fin {α β : Type} (rep : List Addr → Hp → β → α → Prop) (W : WX) (s : L2.St) (I : List Addr) (B H : Hp) (Q : β → Hp → Prop) : R α → Prop
  | .ok x S' => ∀ J B' H' v, Gr I B H J B' H' → Sto L J B' H' S' → rep J B' v x → Q v H'
  | .exc e S' => ∀ J B' H' c dd, Gr I B H J B' H' → Sto L J B' H' S' → RpX J B' c dd e → W c dd s H'
  | .bad => False
/-- the reading of a piece -/
def rd {α β : Type} (rep : List Addr → Hp → β → α → Prop) (W : WX) (c : C α) : L2.St → Hp → (β → Hp → Prop) → Prop := fun s H Q =>
  ∃ H0 I B z S, At T H0 I B H s z S ∧ Fin T.tabs rep W s I B H Q (c z S)
abbrev rB : List Addr → Hp → Bool → Bool → Prop := fun _ _ x y => x = y
abbrev rdE (W : WX) (c : CE) : TE := rd T Rp W c
abbrev rdT (W : WX) (c : CT) : TT := rd T rB W c
abbrev rdA (W : WX) (c : CA) : TA := rd T Rps W c
variable {L} {T}
section
variable {α β γ δ : Type} {rep : List Addr → Hp → β → α → Prop} {rep2 : List Addr → Hp → δ → γ → Prop} {W : WX} {s : L2.St} {I J : List Addr} {B H B' H' H0 : Hp} {Q : β → Hp → Prop} {z : Sl} {S S' : Store}
theorem Fin.gr {r : R α} (h : Fin L rep W s I B H Q r) (g : Gr I B H J B' H') : Fin L rep W s J B' H' Q r := by
  cases r with
  | ok x S' => exact fun J B' H' v g' => h J B' H' v (g.trans g')
  | exc e S' => exact fun J B' H' c dd g' => h J B' H' c dd (g.trans g')
  | bad => exact h
theorem At.gr (h : At T H0 I B H s z S) (g : Gr I B H J B' H') (st : Sto T.tabs J B' H' S') : At T H0 J B' H' s z S' := ⟨h.sl.gr g, st⟩
/-- a piece, and what is made of its end -/
theorem bind {ca : C α} {f : α → Store → R γ} {P : β → Hp → Prop} {Q : δ → Hp → Prop} (at_ : At T H0 I B H s z S) (h : Fin T.tabs rep2 W s I B H Q ((ca z S).bind f))
    (k : ∀ J B' H' S' v x, Gr I B H J B' H' → At T H0 J B' H' s z S' → rep J B' v x → Fin T.tabs rep2 W s J B' H' Q (f x S') → P v H') : rd T rep W ca s H P := by
  refine ⟨H0, I, B, z, S, at_, ?_⟩
  cases e : ca z S with
  | ok x S' =>
    rw [e] at h
    exact fun J B' H' v g st r => k J B' H' S' v x g (at_.gr g st) r (Fin.gr (r := f x S') h g)
  | exc x S' =>
    rw [e] at h
    exact h
  | bad =>
    rw [e] at h
    exact h
theorem Fin.here {x : α} {v : β} (h : Fin L rep W s I B H Q (.ok x S)) (st : Sto L I B H S) (r : rep I B v x) : Q v H := h I B H v (Gr.refl I B H) st r
/-- a new object that never changes -/
theorem gr_new {p : Addr} {o : HO} (hp : H p = none) (hb : ∀ a o, B a = some o → H a = some o) : Gr I B H I (upd B p o) (upd H p o) where
  pre := ⟨[], by simp, by simp⟩
  ext := fun a u h => by
    have : a ≠ p := fun e => by subst e; rw [hb _ _ h] at hp; cases hp
    rw [upd_ne this]; exact h
  new := fun a u h => by
    by_cases e : a = p
    · exact .inr (e ▸ Fr.of hp)
    · rw [upd_ne e] at h; exact .inl h
  keep := fun a u h _ _ => by
    have : a ≠ p := fun e => by subst e; rw [h] at hp; cases hp
    rw [upd_ne this]; exact h
  dom := fun a h => h.down fun q => by subst q; exact .of hp
theorem Sto.mono_H {H' : Hp} (st : Sto L I B H S) (k : ∀ a o, H a = some o → H' a = some o) : Sto L I B H' S :=
  ⟨st.len, st.nd, st.dj, fun a o h => k _ _ (st.sub a o h), st.nt, fun i m h => let ⟨a, o, h1, h2, h3⟩ := st.at_ i m h; ⟨a, o, h1, k _ _ h2, h3⟩, st.tb.ext k⟩
theorem keep_new {p : Addr} {o : HO} (hp : H p = none) : ∀ a u, H a = some u → upd H p o a = some u := fun a u h => by
  have : a ≠ p := fun e => by subst e; rw [h] at hp; cases hp
  rw [upd_ne this]; exact h
theorem Sto.new {p : Addr} {o : HO} (st : Sto L I B H S) (hp : H p = none) (nt : ∀ ps, o ≠ .tbl ps) : Sto L I (upd B p o) (upd H p o) S := by
  have hI : ∀ a ∈ I, a ≠ p := fun a ha e => by
    obtain ⟨i, hi⟩ := List.mem_iff_getElem?.mp ha
    have hl : i < S.length := by
      have := (List.getElem?_eq_some_iff.mp hi).1
      rw [st.len] at this; exact this
    obtain ⟨b, u, h1, h2, _⟩ := st.at_ i S[i] (List.getElem?_eq_getElem hl)
    rw [hi] at h1; cases h1
    rw [e, hp] at h2; cases h2
  have st' := st.mono_H (keep_new (o := o) hp)
  have hB : ∀ a u, B a = some u → upd B p o a = some u := fun a u h => by
    have : a ≠ p := fun e => by subst e; rw [st.sub _ _ h] at hp; cases hp
    rw [upd_ne this]; exact h
  refine ⟨st.len, st.nd, fun a ha => by rw [upd_ne (hI a ha)]; exact st.dj a ha, fun a u h => ?_, fun a u h => ?_, fun i m h => ?_, st'.tb⟩
  · by_cases e : a = p
    · subst e; rw [upd_same] at h ⊢; exact h
    · rw [upd_ne e] at h ⊢; exact st.sub a u h
  · by_cases e : a = p
    · subst e; rw [upd_same] at h; cases h; exact nt
    · rw [upd_ne e] at h; exact st.nt a u h
  · obtain ⟨a, u, h1, h2, h3⟩ := st'.at_ i m h
    exact ⟨a, u, h1, h2, h3.mono ⟨[], by simp⟩ hB⟩
theorem Fin.fresh {x : α} {v : β} {p : Addr} {o : HO} (h : Fin L rep W s I B H Q (.ok x S)) (st : Sto L I B H S) (hp : H p = none) (nt : ∀ ps, o ≠ .tbl ps) (r : rep I (upd B p o) v x) : Q v (upd H p o) :=
  h I _ _ v (gr_new hp st.sub) (st.new hp nt) r
theorem Rps.new {p : Addr} {o : HO} {vs : List V} {xs : List D} (r : Rps I B vs xs) (st : Sto L I B H S) (hp : H p = none) : Rps I (upd B p o) vs xs :=
  r.mono ⟨[], by simp⟩ (xs := xs) fun a u h => by
    have : a ≠ p := fun e => by subst e; rw [st.sub _ _ h] at hp; cases hp
    rw [upd_ne this]; exact h
end

/-! ### from a reading to a reading -/
theorem pe_imp {X : Cx} {e : Expr} {t t' : TE} (h : PE X e t) (k : ∀ s H Q, t' s H Q → t s H Q) : PE X e t' := ⟨fun pins s σ H Q I hq => h.run pins s σ H Q I (k _ _ _ hq)⟩
theorem pt_imp {X : Cx} {e : Expr} {t t' : TT} (h : PT X e t) (k : ∀ s H Q, t' s H Q → t s H Q) : PT X e t' := ⟨fun pins s σ H Q I hq => h.run pins s σ H Q I (k _ _ _ hq)⟩
theorem pw_imp {X : Cx} {e : Expr} {t t' : TT} (h : PW X e t) (k : ∀ s H Q, t' s H Q → t s H Q) : PW X e t' := ⟨fun w pins s σ H Q I hq => h.run w pins s σ H Q I (k _ _ _ hq)⟩
theorem pa_imp {X : Cx} {e : List Expr} {t t' : TA} (h : PA X e t) (k : ∀ s H Q, t' s H Q → t s H Q) : PA X e t' := ⟨fun pos pins s σ H Q I hq => h.run pos pins s σ H Q I (k _ _ _ hq)⟩
theorem ps_imp {X : Cx} {e : Stmt} {t t' : TS} (h : PS X e t) (k : ∀ D s H, t' D s H → t D s H) : PS X e t' := ⟨fun pins s σ H D I hq => h.run pins s σ H D I (k _ _ _ hq)⟩
theorem pss_imp {X : Cx} {e : List Stmt} {t t' : TS} (h : PSs X e t) (k : ∀ D s H, t' D s H → t D s H) : PSs X e t' := ⟨fun pins s σ H D I hq => h.run pins s σ H D I (k _ _ _ hq)⟩
end CL
set_option Elab.async false
set_option linter.all false
set_option maxRecDepth 100000
/-! CL3: the rules: expressions. -/
namespace CL
open PySem PySem.Spec PyProof.Rows L2
variable [TheK]
variable {L : Tl} {T : Pm} {X : Cx} {W : WX}

/-! ### names, constants -/
theorem Slt.get {H0 : Hp} {I : List Addr} {B H : Hp} {s : L2.St} {z : Sl} {i : Nat} {x : SV} (h : Slt T H0 I B H s z) (e : z[i]? = some x) : ∃ o, s[i]? = some o ∧ SlotOk T H0 I B H o x := by
  have hl : i < s.length := by rw [h.len]; exact (List.getElem?_eq_some_iff.mp e).1
  exact ⟨s[i], List.getElem?_eq_getElem hl, h.ok i _ x (List.getElem?_eq_getElem hl) e⟩
theorem e_var (i : Nat) {x : Str} {pos : Pos} (hN : X.N[i]? = some x := by rfl) (hv : Vis X.env.scope x := by first | exact Or.inl rfl | exact Or.inr (Or.inl rfl) | exact Or.inr (Or.inr rfl)) (hd : (x == ("__debug__" : Str)) = false := by decide)
    (hcd : (x == ("__classdict__" : Str)) = false := by decide) : PE X (.Name x pos) (rdE T W (cVar i)) := by
  refine pe_imp (pe_var hN hv hd hcd) ?_
  rintro s H Q ⟨H0, I, B, z, S, a, f⟩
  unfold cVar slotD at f
  split at f
  · rename_i x e
    obtain ⟨o, h1, v, h2, r⟩ := a.sl.get e
    exact ⟨v, by rw [h1, h2], f.here a.st r⟩
  · exact f.elim
theorem e_k {e : Expr} {v : V} {x : D} (h : PE X e (tC v)) (r : ∀ I B, Rp I B v x) : PE X e (rdE T W (cK x)) := by
  refine pe_imp h ?_
  rintro s H Q ⟨H0, I, B, z, S, a, f⟩
  exact Fin.here (x := x) (v := v) f a.st (r I B)
theorem e_int {i j pos} : PE X (.Constant (.int i) j pos) (rdE T W (cK (.int i))) := e_k pe_int fun _ _ => rfl
theorem e_bl {b j pos} : PE X (.Constant (.bool b) j pos) (rdE T W (cK (.bl b))) := e_k pe_bl fun _ _ => rfl
theorem e_non {j pos} : PE X (.Constant .none j pos) (rdE T W (cK .non)) := e_k pe_non fun _ _ => rfl
theorem e_str {x j pos} : PE X (.Constant (.str x) j pos) (rdE T W (cK (.str x))) := e_k pe_str fun _ _ => rfl
/-- a def or class of the module, as a value -/
theorem e_glob {x : Str} {a : Addr} {pos : Pos} (hg : Gl X x) (hm : X.mg x = some (.ref a)) (hd : (x == ("__debug__" : Str)) = false := by decide) : PE X (.Name x pos) (rdE T W (cK (.ref a))) := e_k (pe_glob (v := .ref a) hg hm rfl hd) fun _ _ => rfl
theorem e_globI {x : Str} {i : Int} {t : Tok} {pos : Pos} (hg : Gl X x) (hm : X.mg x = some (.int i t)) (hd : (x == ("__debug__" : Str)) = false := by decide) : PE X (.Name x pos) (rdE T W (cK (.int i))) := e_k (pe_glob (v := .int i) hg hm ⟨t, rfl⟩ hd) fun _ _ => rfl
theorem e_globS {x y : Str} {t : Tok} {pos : Pos} (hg : Gl X x) (hm : X.mg x = some (.str y t)) (hd : (x == ("__debug__" : Str)) = false := by decide) : PE X (.Name x pos) (rdE T W (cK (.str y))) := e_k (pe_glob (v := .str y) hg hm ⟨t, rfl⟩ hd) fun _ _ => rfl
theorem e_never {e : Expr} : PE X e (rdE T W cNo) := ⟨fun _ _ _ _ _ _ ⟨_, _, _, _, _, _, f⟩ => f.elim⟩

/-! ### operators -/
variable (L) in
/-- the operation on data is the operation on values -/
def Ok2 (r : R2) (f : D → D → Store → R D) : Prop := ∀ {W : WX} {s : L2.St} {I : List Addr} {B H : Hp} {Q : VK} {S : Store} {v u : V} {x y : D}, Sto L I B H S → Rp I B v x → Rp I B u y → Fin L Rp W s I B H Q (f x y S) → r v u H Q
variable (L) in
def Ok1 (r : V → Hp → VK → Prop) (f : D → Store → R D) : Prop := ∀ {W : WX} {s : L2.St} {I : List Addr} {B H : Hp} {Q : VK} {S : Store} {v : V} {x : D}, Sto L I B H S → Rp I B v x → Fin L Rp W s I B H Q (f x S) → r v H Q
variable (L) in
def OkA (r : List V → Hp → VK → Prop) (f : List D → Store → R D) : Prop := ∀ {W : WX} {s : L2.St} {I : List Addr} {B H : Hp} {Q : VK} {S : Store} {v : List V} {x : List D}, Sto L I B H S → Rps I B v x → Fin L Rp W s I B H Q (f x S) → r v H Q
section
variable {a b c : Expr} {ca cb cc : CE} {pos : Pos} {f g : D → D → Store → R D}
theorem two {r : R2} (hf : Ok2 T.tabs r f) {s : L2.St} {H : Hp} {Q : VK} (h : rdE T W (c2 f ca cb) s H Q) : tOp r (rdE T W ca) (rdE T W cb) s H Q := by
  obtain ⟨H0, I, B, z, S, a, h⟩ := h
  refine bind a h fun J B' H' S' v x g a1 r1 f1 => ?_
  refine bind (rep := Rp) (Q := Q) (rep2 := Rp) a1 f1 fun J2 B2 H2 S2 u y g2 a2 r2 f2 => ?_
  exact hf a2.st (r1.gr g2) r2 f2
theorem e_op {op : Operator} {r : R2} (ho : OpR X (binaryOp op) r) (hf : Ok2 T.tabs r f) (ha : PE X a (rdE T W ca)) (hb : PE X b (rdE T W cb)) : PE X (.BinOp a op b pos) (rdE T W (c2 f ca cb)) :=
  pe_imp (pe_op ho ha hb) fun _ _ _ h => two hf h
theorem e_un {op : UnaryOp} {r : V → Hp → VK → Prop} {f : D → Store → R D} (ho : UnR X (unaryOp op) r) (hf : Ok1 T.tabs r f) (ha : PE X a (rdE T W ca)) : PE X (.UnaryOp op a pos) (rdE T W (c1 f ca)) := by
  refine pe_imp (pe_un ho ha) ?_
  rintro s H Q ⟨H0, I, B, z, S, a, h⟩
  exact bind a h fun J B' H' S' v x g a1 r1 f1 => hf a1.st r1 f1
theorem e_cmp {op : CmpOp} {r : R2} (ho : OpR X (compareOp op) r) (hf : Ok2 T.tabs r f) (ha : PE X a (rdE T W ca)) (hb : PE X b (rdE T W cb)) (hm : behindInMarks op b = false) : PE X (.Compare a [op] [b] pos) (rdE T W (c2 f ca cb)) :=
  pe_imp (pe_cmpR ho ha hb hm) fun _ _ _ h => two hf h
/-- a truth value as a test -/
theorem toB {c : CE} {s : L2.St} {H : Hp} {Q : Bool → Hp → Prop} (h : rdT T W (tB c) s H Q) : rdE T W c s H fun x H' => ∃ k, x = .bl k ∧ Q k H' := by
  obtain ⟨H0, I, B, z, S, a, h⟩ := h
  refine bind (rep2 := rB) (Q := Q) a h fun J B' H' S' v x g a1 r1 f1 => ?_
  cases x with
  | bl k => exact ⟨k, r1, f1.here a1.st rfl⟩
  | _ => exact f1.elim
theorem t_cmp {op : CmpOp} {r : R2} (ho : OpR X (compareOp op) r) (hf : Ok2 T.tabs r f) (ha : PE X a (rdE T W ca)) (hb : PE X b (rdE T W cb)) (hm : behindInMarks op b = false) : PT X (.Compare a [op] [b] pos) (rdT T W (tB (c2 f ca cb))) :=
  pt_imp (pt_cmpR ho ha hb hm) fun _ _ _ h => two hf (toB h)
theorem chain {r r' : R2} (hf : Ok2 T.tabs r f) (hg : Ok2 T.tabs r' g) {s : L2.St} {H : Hp} {Q : VK} (h : rdE T W (cChain f g ca cb cc) s H Q) : tChain r r' (rdE T W ca) (rdE T W cb) (rdE T W cc) s H Q := by
  obtain ⟨H0, I, B, z, S, a, h⟩ := h
  refine bind a h fun J B' H' S' v x g1 a1 r1 f1 => ?_
  refine bind (rep := Rp) (Q := Q) (rep2 := Rp) a1 f1 fun J2 B2 H2 S2 u y g2 a2 r2 f2 => ?_
  refine hf (W := W) (s := s) (S := S2) a2.st (r1.gr g2) r2 ?_
  cases e : f x y S2 with
  | ok k S3 =>
    rw [e] at f2
    intro J3 B3 H3 k' g3 st3 rk
    cases k with
    | bl k =>
      cases rk
      refine ⟨k, rfl, ?_⟩
      have f3 := Fin.gr f2 g3
      cases k with
      | true =>
        rw [if_pos rfl]
        have a3 := a2.gr g3 st3
        exact bind (rep := Rp) (Q := Q) (rep2 := Rp) a3 f3 fun J4 B4 H4 S4 w y' g4 a4 r4 f4 => hg a4.st ((r2.gr g3).gr g4) r4 f4
      | false =>
        rw [if_neg Bool.false_ne_true]
        exact Fin.here f3 st3 rfl
    | _ => exact f2.elim
  | exc x S3 =>
    rw [e] at f2
    exact f2
  | bad =>
    rw [e] at f2
    exact f2
theorem e_chain {op op' : CmpOp} {r r' : R2} (ho : OpR X (compareOp op) r) (ho' : OpR X (compareOp op') r') (hf : Ok2 T.tabs r f) (hg : Ok2 T.tabs r' g) (ha : PE X a (rdE T W ca)) (hb : PE X b (rdE T W cb)) (hc : PE X c (rdE T W cc))
    (hm : lastMarks [op, op'] [b, c] = false := by with_unfolding_all rfl) : PE X (.Compare a [op, op'] [b, c] pos) (rdE T W (cChain f g ca cb cc)) :=
  pe_imp (pe_chain ho ho' ha hb hc hm) fun _ _ _ h => chain hf hg h
theorem t_chain {op op' : CmpOp} {r r' : R2} (ho : OpR X (compareOp op) r) (ho' : OpR X (compareOp op') r') (hf : Ok2 T.tabs r f) (hg : Ok2 T.tabs r' g) (ha : PE X a (rdE T W ca)) (hb : PE X b (rdE T W cb)) (hc : PE X c (rdE T W cc))
    (hm : lastMarks [op, op'] [b, c] = false := by with_unfolding_all rfl) : PT X (.Compare a [op, op'] [b, c] pos) (rdT T W (tB (cChain f g ca cb cc))) :=
  pt_imp (pt_chain ho ho' ha hb hc hm) fun _ _ _ h => chain hf hg (toB h)
theorem t_val {e : Expr} {ce : CE} (h : PE X e (rdE T W ce)) (he : ∀ whole, isTrue e X.env whole = (do let v ← whole; standAt e.pos; holding [v] (truthy v)) := by intro _; rfl) : PT X e (rdT T W (tB ce)) :=
  pt_imp (pt_val h he) fun _ _ _ h => toB h

/-! ### and, or, not, if -/
variable {t u : CT} {rest : List Expr}
theorem t_not (ha : PT X a (rdT T W t)) : PT X (.UnaryOp .Not a pos) (rdT T W (tNot t)) := by
  refine pt_imp (L2.pt_not ha) ?_
  rintro s H Q ⟨H0, I, B, z, S, a, h⟩
  refine bind (rep2 := rB) (Q := Q) a h fun J B' H' S' v x g a1 r1 f1 => ?_
  cases r1
  exact f1.here a1.st rfl
theorem w_and1 (ha : PT X a (rdT T W t)) : PW X (.BoolOp .And [a] pos) (rdT T W t) := pw_and1 ha
theorem w_or1 (ha : PT X a (rdT T W t)) : PW X (.BoolOp .Or [a] pos) (rdT T W t) := pw_or1 ha
theorem w_and (ha : PT X a (rdT T W t)) (hb : PW X (.BoolOp .And (b :: rest) pos) (rdT T W u)) : PW X (.BoolOp .And (a :: b :: rest) pos) (rdT T W (CL.tAnd t u)) := by
  refine pw_imp (pw_and ha hb) ?_
  rintro s H Q ⟨H0, I, B, z, S, a, h⟩
  refine bind (rep2 := rB) (Q := Q) a h fun J B' H' S' v x g a1 r1 f1 => ?_
  cases r1
  cases v with
  | true => exact ⟨H0, J, B', z, S', a1, f1⟩
  | false => exact Fin.here f1 a1.st rfl
theorem w_or (ha : PT X a (rdT T W t)) (hb : PW X (.BoolOp .Or (b :: rest) pos) (rdT T W u)) : PW X (.BoolOp .Or (a :: b :: rest) pos) (rdT T W (CL.tOr t u)) := by
  refine pw_imp (pw_or ha hb) ?_
  rintro s H Q ⟨H0, I, B, z, S, a, h⟩
  refine bind (rep2 := rB) (Q := Q) a h fun J B' H' S' v x g a1 r1 f1 => ?_
  cases r1
  cases v with
  | false => exact ⟨H0, J, B', z, S', a1, f1⟩
  | true => exact Fin.here f1 a1.st rfl
theorem t_w (h : PW X a (rdT T W t)) : PT X a (rdT T W t) := h.pt
theorem e_if (hc : PT X c (rdT T W t)) (ha : PE X a (rdE T W ca)) (hb : PE X b (rdE T W cb)) : PE X (.IfExp c a b pos) (rdE T W (CL.cIf t ca cb)) := by
  refine pe_imp (pe_ifExp hc ha hb) ?_
  rintro s H Q ⟨H0, I, B, z, S, a, h⟩
  refine bind (rep2 := Rp) (Q := Q) a h fun J B' H' S' v x g a1 r1 f1 => ?_
  cases r1
  cases v with
  | true => exact ⟨H0, J, B', z, S', a1, f1⟩
  | false => exact ⟨H0, J, B', z, S', a1, f1⟩
theorem e_one {op : BoolOp} (h : PE X a (rdE T W ca)) : PE X (.BoolOp op [a] pos) (rdE T W ca) := pe_one h
theorem e_and (ha : PE X a (rdE T W ca)) (hb : PE X (.BoolOp .And (b :: rest) pos) (rdE T W cb)) : PE X (.BoolOp .And (a :: b :: rest) pos) (rdE T W (cAnd ca cb)) := by
  refine pe_imp (pe_and ha hb) ?_
  rintro s H Q ⟨H0, I, B, z, S, a, h⟩
  refine bind (rep2 := Rp) (Q := Q) a h fun J B' H' S' v x g a1 r1 f1 => ?_
  cases x with
  | bl k =>
    refine ⟨k, r1, ?_⟩
    cases k with
    | true => exact ⟨H0, J, B', z, S', a1, f1⟩
    | false => exact Fin.here f1 a1.st rfl
  | _ => exact f1.elim
theorem e_or (ha : PE X a (rdE T W ca)) (hb : PE X (.BoolOp .Or (b :: rest) pos) (rdE T W cb)) : PE X (.BoolOp .Or (a :: b :: rest) pos) (rdE T W (cOr ca cb)) := by
  refine pe_imp (pe_or ha hb) ?_
  rintro s H Q ⟨H0, I, B, z, S, a, h⟩
  refine bind (rep2 := Rp) (Q := Q) a h fun J B' H' S' v x g a1 r1 f1 => ?_
  cases x with
  | bl k =>
    refine ⟨k, r1, ?_⟩
    cases k with
    | false => exact ⟨H0, J, B', z, S', a1, f1⟩
    | true => exact Fin.here f1 a1.st rfl
  | _ => exact f1.elim
theorem e_not (ha : PE X a (rdE T W ca)) : PE X (.UnaryOp .Not a pos) (rdE T W (cNot ca)) := by
  refine pe_imp (pe_not ha) ?_
  rintro s H Q ⟨H0, I, B, z, S, a, h⟩
  refine bind (rep2 := Rp) (Q := Q) a h fun J B' H' S' v x g a1 r1 f1 => ?_
  cases x with
  | bl k => exact ⟨k, r1, f1.here a1.st rfl⟩
  | _ => exact f1.elim

/-! ### arguments, displays -/
variable {es : List Expr} {cs : CA}
theorem a_nil : PA X [] (rdA T W aNil) := by
  refine pa_imp pa_nil ?_
  rintro s H Q ⟨H0, I, B, z, S, a, h⟩
  exact Fin.here (x := ([] : List D)) (v := ([] : List V)) h a.st trivial
theorem a_cons (ha : PE X a (rdE T W ca)) (hr : PA X es (rdA T W cs)) (hs : starEach (a :: es) X.env = (false, eval a X.env) :: starEach es X.env := by rfl) : PA X (a :: es) (rdA T W (aCons ca cs)) := by
  refine pa_imp (pa_cons ha hr hs) ?_
  rintro s H Q ⟨H0, I, B, z, S, a, h⟩
  refine bind (rep2 := Rps) (Q := Q) a h fun J B' H' S' v x g a1 r1 f1 => ?_
  refine bind (rep := Rps) (rep2 := Rps) (Q := Q) a1 f1 fun J2 B2 H2 S2 vs xs g2 a2 r2 f2 => ?_
  exact Fin.here (v := v :: vs) f2 a2.st ⟨r1.gr g2, r2⟩
end
end CL
set_option Elab.async false
set_option linter.all false
set_option maxRecDepth 100000
/-! CL4: operations on values. -/
namespace CL
open PySem PySem.Spec PyProof.Rows L2
variable [TheK]
variable {L : Tl} {T : Pm} {X : Cx} {W : WX}

theorem line_le {n : Nat} (h : n ≤ 16777216) : n ≤ sizeLine := by rw [sizeLine_eq]; exact h
theorem line_lt {n : Nat} (h : n < 16777216) : n < sizeLine := by rw [sizeLine_eq]; exact h
section
variable {s : L2.St} {I : List Addr} {B H : Hp} {Q : VK} {S : Store} {v u : V} {x y : D} {K : PySem.W.Frag}
theorem Sto.rdL (st : Sto L I B H S) {a : Addr} {o : HO} (h : Rd B a o) : Rd H a o := h.elim (fun z => .inl (st.sub _ _ z)) fun ⟨o, z⟩ => .inr ⟨o, st.sub _ _ z⟩
theorem Rp.tup (st : Sto L I B H S) {xs : List D} (r : Rp I B v (.tup xs)) : ∃ a vs, v = .ref a ∧ H a = some (.tup vs) ∧ B a = some (.tup vs) ∧ Rps I B vs xs :=
  let ⟨a, vs, h1, h2, h3⟩ := r; ⟨a, vs, h1, st.sub _ _ h2, h2, h3⟩
theorem Rp.lst (st : Sto L I B H S) {xs : List D} (r : Rp I B v (.lst xs)) : ∃ a vs, v = .ref a ∧ H a = some (.lst vs) ∧ B a = some (.lst vs) ∧ Rps I B vs xs :=
  let ⟨a, vs, h1, h2, h3⟩ := r; ⟨a, vs, h1, st.sub _ _ h2, h2, h3⟩
/-- what stands behind a pointer -/
theorem Rp.ptr (st : Sto L I B H S) {i : Nat} {m : MO} (r : Rp I B v (.ptr i)) (e : S[i]? = some m) : ∃ a o, v = .ref a ∧ I[i]? = some a ∧ H a = some o ∧ RpM I B o m := by
  obtain ⟨a, h1, h2⟩ := r
  obtain ⟨b, o, h3, h4, h5⟩ := st.at_ i m e
  rw [h1] at h3; cases h3
  exact ⟨a, o, h2, h1, h4, h5⟩
theorem Sto.scr (st : Sto L I B H S) {a : Addr} {ns : List Int} (h : Rd B a (.lst (ns.map V.int)) ∨ KLst a ns) : SqL TheK.K H a (ns.map V.int) := h.imp st.rdL id
theorem items (hK : K = TheK.K) (st : Sto L I B H S) {xs : List D} (r : Rp I B v x) (e : itemsOf S x = some xs) : ∃ a vs, v = .ref a ∧ (SqL K H a vs ∨ SqT K H a vs) ∧ Rps I B vs xs := by
  subst hK
  unfold itemsOf at e
  split at e
  · cases e
    obtain ⟨a, vs, h1, h2, _, h3⟩ := Rp.tup st r
    exact ⟨a, vs, h1, .inr (SqT.of h2), h3⟩
  · cases e
    obtain ⟨a, vs, h1, h2, _, h3⟩ := Rp.lst st r
    exact ⟨a, vs, h1, .inl (SqL.of h2), h3⟩
  · cases e
    obtain ⟨a, h1, h2⟩ := r
    exact ⟨a, _, h1, .inl (st.scr h2), Rps.ints _⟩
  · rename_i i
    split at e
    · rename_i ys e2
      cases e
      obtain ⟨a, o, h1, _, h2, vs, h3, h4⟩ := Rp.ptr st r e2
      subst h3
      exact ⟨a, vs, h1, .inl (SqL.of h2), h4⟩
    · cases e
  · cases e
theorem Rps.nil_iff {vs : List V} {xs : List D} (h : Rps I B vs xs) : vs = [] ↔ xs = [] := by
  have := h.len
  cases vs <;> cases xs <;> simp_all
theorem Fin.newT {W : WX} {xs : List D} {vs : List V} {p : Addr} (f : Fin L Rp W s I B H Q (.ok (.tup xs) S)) (st : Sto L I B H S) (r : Rps I B vs xs) (hp : H p = none) : Q (.ref p) (upd H p (.tup vs)) :=
  f.fresh st hp (fun _ z => by cases z) ⟨p, vs, rfl, upd_same, r.new st hp⟩
theorem Fin.newL {W : WX} {xs : List D} {vs : List V} {p : Addr} (f : Fin L Rp W s I B H Q (.ok (.lst xs) S)) (st : Sto L I B H S) (r : Rps I B vs xs) (hp : H p = none) : Q (.ref p) (upd H p (.lst vs)) :=
  f.fresh st hp (fun _ z => by cases z) ⟨p, vs, rfl, upd_same, r.new st hp⟩
theorem Rps.rep {vs : List V} {xs : List D} (h : Rps I B vs xs) : ∀ k : Nat, Rps I B (List.replicate k vs).flatten (List.replicate k xs).flatten
  | 0 => by simp [Rps]
  | k + 1 => by
    rw [List.replicate_succ, List.replicate_succ, List.flatten_cons, List.flatten_cons]
    exact h.append (Rps.rep h k)
end

/-! ### numbers, +, * -/
abbrev rAddA (K : PySem.W.Frag) : R2 := fun x y H Q => (rI0 fun i j => .int (i + j)) x y H Q ∨ (∃ i j, x = .str i ∧ y = .str j ∧ i.length + j.length ≤ sizeLine ∧ Q (.str (i ++ j)) H) ∨ rCatA K x y H Q ∨ rCat x y H Q
theorem op_addA : OpR X (binaryOp .Add) (rAddA X.K) := op_add.or (op_add_str.or (op_catA.or op_cat))
theorem k_add {K : PySem.W.Frag} : Ok2 L (rAddA K) oAdd := by
  intro W s I B H Q S v u x y st rx ry f
  unfold oAdd at f
  split at f
  · cases rx; cases ry
    exact .inl ⟨_, _, rfl, rfl, f.here st rfl⟩
  · cases rx; cases ry
    split at f
    · rename_i h
      exact .inr (.inl ⟨_, _, rfl, rfl, line_le h, f.here st rfl⟩)
    · exact f.elim
  · split at f
    · rename_i h
      obtain ⟨a, vs, rfl, h1, b1, r1⟩ := Rp.tup st rx
      obtain ⟨b, ws, rfl, h2, b2, r2⟩ := Rp.tup st ry
      refine .inr (.inr (.inl ⟨a, b, vs, ws, rfl, rfl, SqT.of h1, SqT.of h2, by rw [r1.len, r2.len]; exact line_le h, fun e => ?_, fun n e => ?_, fun n1 n2 p hp => f.newT st (r1.append r2) hp⟩))
      · have := r1.nil_iff.mp e
        subst this
        exact f.here st ⟨b, ws, rfl, b2, r2⟩
      · have := r2.nil_iff.mp e
        subst this
        rw [List.append_nil] at f
        exact f.here st ⟨a, vs, rfl, b1, r1⟩
    · exact f.elim
  · split at f
    · rename_i h
      obtain ⟨a, vs, rfl, h1, b1, r1⟩ := Rp.lst st rx
      obtain ⟨b, ws, rfl, h2, b2, r2⟩ := Rp.lst st ry
      exact .inr (.inr (.inr ⟨a, b, vs, ws, rfl, rfl, h1, h2, by rw [r1.len, r2.len]; exact line_le h, fun p hp => f.newL st (r1.append r2) hp⟩))
    · exact f.elim
  · split at f
    · rename_i e
      split at f
      · rename_i h
        obtain ⟨a, o, rfl, _, h1, vs, rfl, r1⟩ := Rp.ptr st rx e
        obtain ⟨b, ws, rfl, h2, b2, r2⟩ := Rp.lst st ry
        exact .inr (.inr (.inr ⟨a, b, vs, ws, rfl, rfl, h1, h2, by rw [r1.len, r2.len]; exact line_le h, fun p hp => f.newL st (r1.append r2) hp⟩))
      · exact f.elim
    · exact f.elim
  · exact f.elim
theorem k_sub : Ok2 L (rI0 fun i j => .int (i - j)) oSub := by
  intro W s I B H Q S v u x y st rx ry f
  unfold oSub at f
  split at f
  · cases rx; cases ry
    exact ⟨_, _, rfl, rfl, f.here st rfl⟩
  · exact f.elim
abbrev rMulA (K : PySem.W.Frag) : R2 := fun x y H Q => (rI CMul fun i j => .int (i * j)) x y H Q ∨ rRepT K x y H Q ∨ rRep x y H Q
theorem op_mulA : OpR X (binaryOp .Mult) (rMulA X.K) := op_mul.or (op_repT.or op_rep)
theorem k_mul {K : PySem.W.Frag} : Ok2 L (rMulA K) oMul := by
  intro W s I B H Q S v u x y st rx ry f
  unfold oMul at f
  split at f
  · cases rx; cases ry
    split at f
    · rename_i h
      refine .inl ⟨_, _, rfl, rfl, ?_, f.here st rfl⟩
      simp only [smallI, Bool.or_eq_true, Bool.and_eq_true, decide_eq_true_eq] at h
      exact h
    · exact f.elim
  · split at f
    · rename_i h
      obtain ⟨h0, h1, h2, h3⟩ := h
      obtain ⟨a, vs, rfl, ha, b1, r1⟩ := Rp.tup st rx
      cases ry
      exact .inr (.inl ⟨a, _, vs, rfl, rfl, SqT.of ha, fun e => h0 (r1.nil_iff.mp e), h1, h2, by rw [r1.len]; exact h3, fun p hp => f.newT st (r1.rep _) hp⟩)
    · exact f.elim
  · split at f
    · rename_i h
      obtain ⟨h0, h1, h2⟩ := h
      obtain ⟨a, vs, rfl, ha, b1, r1⟩ := Rp.lst st rx
      cases ry
      exact .inr (.inr ⟨a, _, vs, rfl, rfl, ha, h0, h1, by rw [r1.len]; exact line_le h2, fun p hp => f.newL st (r1.rep _) hp⟩)
    · exact f.elim
  · exact f.elim
theorem k_mod : Ok2 L (rI (fun _ j => 0 < j) fun i j => .int (i % j)) oMod := by
  intro W s I B H Q S v u x y st rx ry f
  unfold oMod at f
  split at f
  · cases rx; cases ry
    split at f
    · rename_i h
      exact ⟨_, _, rfl, rfl, h, f.here st rfl⟩
    · exact f.elim
  · exact f.elim
theorem k_div : Ok2 L (rI CDivW fun i j => .int (i / j)) oDiv := by
  intro W s I B H Q S v u x y st rx ry f
  unfold oDiv at f
  split at f
  · cases rx; cases ry
    split at f
    · rename_i h
      exact ⟨_, _, rfl, rfl, h, f.here st rfl⟩
    · exact f.elim
  · exact f.elim
theorem k_pow : Ok2 L (rI CPow fun i j => .int (i ^ j.toNat)) oPow := by
  intro W s I B H Q S v u x y st rx ry f
  unfold oPow at f
  split at f
  · cases rx; cases ry
    split at f
    · rename_i h
      exact ⟨_, _, rfl, rfl, h, f.here st rfl⟩
    · exact f.elim
  · exact f.elim
theorem k_neg : Ok1 L (rU fun i => .int (-i)) oNeg := by
  intro W s I B H Q S v x st rx f
  unfold oNeg at f
  split at f
  · cases rx
    exact ⟨_, rfl, f.here st rfl⟩
  · exact f.elim
theorem k_cmp {p : Int → Int → Bool} : Ok2 L (rI0 fun i j => .bl (p i j)) (oCmp p) := by
  intro W s I B H Q S v u x y st rx ry f
  unfold oCmp at f
  split at f
  · cases rx; cases ry
    exact ⟨_, _, rfl, rfl, f.here st rfl⟩
  · exact f.elim
theorem k_lt : Ok2 L (rI0 fun i j => .bl (decide (i < j))) oLt := k_cmp
theorem k_le : Ok2 L (rI0 fun i j => .bl (decide (i ≤ j))) oLe := k_cmp
theorem k_gt : Ok2 L (rI0 fun i j => .bl (decide (j < i))) oGt := k_cmp
theorem k_ge : Ok2 L (rI0 fun i j => .bl (decide (j ≤ i))) oGe := k_cmp
theorem isNon_iff {I : List Addr} {B : Hp} {v : V} {x : D} (r : Rp I B v x) : decide (v = .non) = isNon x := by
  cases x with
  | non => cases r; rfl
  | bl _ => cases r; rfl
  | int _ => cases r; rfl
  | str _ => cases r; rfl
  | byt _ => cases r; rfl
  | tup _ => obtain ⟨a, vs, rfl, _⟩ := r; rfl
  | lst _ => obtain ⟨a, vs, rfl, _⟩ := r; rfl
  | scr _ => obtain ⟨a, rfl, _⟩ := r; rfl
  | dct _ _ => obtain ⟨a, vs, rfl, _⟩ := r; rfl
  | obj _ _ _ => obtain ⟨a, dx, vs, rfl, _⟩ := r; rfl
  | ptr _ => obtain ⟨a, _, rfl⟩ := r; rfl
  | ref _ => cases r; rfl
  | ty _ => cases r; rfl
theorem k_isN : Ok2 L (fun x y H Q => y = .non ∧ Q (.bl (decide (x = .non))) H) xIsN := by
  intro W s I B H Q S v u x y st rx ry f
  cases y with
  | non => exact ⟨ry, Fin.here f st (by rw [isNon_iff rx]; rfl)⟩
  | _ => exact f.elim
theorem k_notN : Ok2 L (fun x y H Q => y = .non ∧ Q (.bl (!decide (x = .non))) H) xNotN := by
  intro W s I B H Q S v u x y st rx ry f
  cases y with
  | non => exact ⟨ry, Fin.here f st (by rw [isNon_iff rx]; rfl)⟩
  | _ => exact f.elim

/-! ### equality of data -/
section
variable {I : List Addr} {B H : Hp} {S : Store} {K : PySem.W.Frag}
mutual
theorem dp_of (st : Sto L I B H S) : ∀ {v : V} (x : D) {d : PyData}, Rp I B v x → toPy x = some d → Dp K H v d
  | v, .non, d, r, e => by cases r; cases e; exact .non
  | v, .bl b, d, r, e => by cases r; cases e; exact .bl b
  | v, .int b, d, r, e => by cases r; cases e; exact .int b
  | v, .str b, d, r, e => by cases r; cases e; exact .str b
  | v, .tup xs, d, r, e => by
    obtain ⟨a, vs, rfl, h, _, r'⟩ := Rp.tup st r
    unfold toPy at e
    cases q : toPys xs with
    | none => rw [q] at e; cases e
    | some ds =>
      rw [q] at e; cases e
      exact .tup (SqT.of h) (dps_of st xs r' q)
  | v, .lst xs, d, r, e => by
    obtain ⟨a, vs, rfl, h, _, r'⟩ := Rp.lst st r
    unfold toPy at e
    cases q : toPys xs with
    | none => rw [q] at e; cases e
    | some ds =>
      rw [q] at e; cases e
      exact .lst (SqL.of h) (dps_of st xs r' q)
  | v, .byt b, d, r, e => by cases e
  | v, .scr b, d, r, e => by cases e
  | v, .dct _ _, d, r, e => by cases e
  | v, .obj _ _ _, d, r, e => by cases e
  | v, .ptr _, d, r, e => by cases e
  | v, .ref _, d, r, e => by cases e
  | v, .ty _, d, r, e => by cases e
theorem dps_of (st : Sto L I B H S) : ∀ {vs : List V} (xs : List D) {ds : List PyData}, Rps I B vs xs → toPys xs = some ds → DpAll K H vs ds
  | [], [], ds, r, e => by
    unfold toPys at e; cases e; exact .nil
  | v :: vs, x :: xs, ds, r, e => by
    unfold toPys at e
    cases q : toPy x with
    | none => rw [q] at e; cases e
    | some d =>
      cases q2 : toPys xs with
      | none => rw [q, q2] at e; cases e
      | some ds' =>
        rw [q, q2] at e; cases e
        exact .cons (dp_of st x r.1 q) (dps_of st xs r.2 q2)
  | [], _ :: _, _, r, _ => r.elim
  | _ :: _, [], _, r, _ => r.elim
end
theorem dp_look (st : Sto L I B H S) {v : V} {x : D} {d : PyData} (r : Rp I B v x) (e : toPy (look S x) = some d) : Dp K H v d := by
  unfold look at e
  split at e
  · rename_i i
    split at e
    · rename_i xs q
      obtain ⟨a, o, rfl, _, h, vs, rfl, r'⟩ := Rp.ptr st r q
      unfold toPy at e
      cases q2 : toPys xs with
      | none => rw [q2] at e; cases e
      | some ds =>
        rw [q2] at e; cases e
        exact .lst (SqL.of h) (dps_of st xs r' q2)
    · cases e
  · exact dp_of st x r e
end
theorem k_eq {K : PySem.W.Frag} : Ok2 L (rEqD K) (oEq false) := by
  intro W s I B H Q S v u x y st rx ry f
  unfold oEq at f
  split at f
  · rename_i d e h1 h2
    split at f
    · rename_i h
      obtain ⟨h3, h4⟩ := Bool.and_eq_true_iff.mp h
      exact ⟨d, e, dp_look st rx h1, dp_look st ry h2, h3, h4, Fin.here f st rfl⟩
    · exact f.elim
  · exact f.elim
theorem k_ne {K : PySem.W.Frag} : Ok2 L (rNeD K) (oEq true) := by
  intro W s I B H Q S v u x y st rx ry f
  unfold oEq at f
  split at f
  · rename_i d e h1 h2
    split at f
    · rename_i h
      obtain ⟨h3, h4⟩ := Bool.and_eq_true_iff.mp h
      exact ⟨d, e, dp_look st rx h1, dp_look st ry h2, h3, h4, Fin.here f st rfl⟩
    · exact f.elim
  · exact f.elim

/-! ### items -/
theorem ixN_get {α β : Type} {xs : List α} {ys : List β} (h : xs.length = ys.length) {i : Int} {y : β} (e : L2.atI ys i = some y) : ∃ j, L2.ixN xs.length i = some j ∧ ys[j]? = some y := by
  unfold L2.atI at e
  cases q : L2.ixN ys.length i with
  | none => rw [q] at e; cases e
  | some j => exact ⟨j, by rw [h]; exact q, by rw [q] at e; exact e⟩
theorem k_ix {K : PySem.W.Frag} (hK : K = TheK.K) : Ok2 L (rIx K) oIx := by
  intro W s I B H Q S v u x y st rx ry f
  unfold oIx at f
  split at f
  · rename_i xs i e
    cases ry
    split at f
    · rename_i w q
      obtain ⟨a, vs, rfl, h, r⟩ := items hK st rx e
      obtain ⟨j, h1, h2⟩ := ixN_get r.len q
      obtain ⟨w', h3, h4⟩ := r.get h2
      have q' : L2.atI vs i = some w' := by unfold L2.atI; rw [h1]; exact h3
      rcases h with h | h
      · exact .inl ⟨a, vs, i, w', rfl, rfl, h, q', f.here st h4⟩
      · exact .inr (.inl ⟨a, vs, i, w', rfl, rfl, h, q', f.here st h4⟩)
    · exact f.elim
  · exact f.elim
section
variable {a b : Expr} {ca cb : CE} {pos : Pos} {f : D → D → Store → R D}
theorem e_ix (ha : PE X a (rdE T W ca)) (hb : PE X b (rdE T W cb)) (hs : PlainIx b := by exact fun _ _ => rfl) (hK : X.K = TheK.K := by rfl) : PE X (.Subscript a b pos) (rdE T W (c2 oIx ca cb)) :=
  pe_imp (pe_ix ix_seq ha hb hs) fun _ _ _ h => two (k_ix hK) h
end
end CL
set_option Elab.async false
set_option linter.all false
set_option maxRecDepth 100000
/-! CL5: slices, displays, calls. -/
namespace CL
open PySem PySem.Spec PyProof.Rows L2
variable [TheK]
variable {L : Tl} {T : Pm} {X : Cx} {W : WX}

/-! ### slices -/
abbrev rO : List Addr → Hp → Option Int → Option Int → Prop := fun _ _ x y => x = y
theorem o_none : PO X none (rd T rO W oNone) := by
  refine ⟨fun pins s σ H Q I h => ?_⟩
  obtain ⟨H0, J, B, z, S, a, h⟩ := h
  exact po_none.run pins s σ H Q I (h J B H none (Gr.refl _ _ _) a.st rfl)
theorem o_some {e : Expr} {c : CE} (he : PE X e (rdE T W c)) : PO X (some e) (rd T rO W (oSome c)) := by
  refine ⟨fun pins s σ H Q I h => ?_⟩
  refine (po_some he).run pins s σ H Q I ?_
  obtain ⟨H0, J, B, z, S, a, h⟩ := h
  refine bind (rep2 := rO) (Q := Q) a h fun J B' H' S' v x g a1 r1 f1 => ?_
  cases x with
  | int i => exact ⟨i, r1, Fin.here (v := some i) f1 a1.st rfl⟩
  | _ => exact f1.elim
abbrev rSlAny (K : PySem.W.Frag) : V → Option Int → Option Int → Hp → VK → Prop := fun x lo hi H Q => rSlA K x lo hi H Q ∨ rSlL K x lo hi H Q ∨ rSlS x lo hi H Q
theorem sl_any : SlR X (rSlAny X.K) := SlR.or sl_tupA (SlR.or sl_list sl_str)
theorem Rps.cut {I : List Addr} {B : Hp} {vs : List V} {xs : List D} (r : Rps I B vs xs) (lo hi : Option Int) : Rps I B (cutV vs lo hi) (cutL xs lo hi) := by
  unfold cutV cutL
  rw [r.len]
  exact (r.drop _).take _
theorem cutL_whole {xs : List D} {lo hi : Option Int} (h : HT.sIx xs.length 0 lo = 0 ∧ HT.sIx xs.length xs.length hi = xs.length) : cutL xs lo hi = xs := by
  unfold cutL
  rw [h.1, h.2]
  simp
theorem k_cut {K : PySem.W.Frag} {s : L2.St} {I : List Addr} {B H : Hp} {Q : VK} {S : Store} {v : V} {x : D} {lo hi : Option Int} (st : Sto L I B H S) (rx : Rp I B v x) (f : Fin L Rp W s I B H Q (oCut x lo hi S)) : rSlAny K v lo hi H Q := by
  unfold oCut at f
  split at f
  · obtain ⟨a, vs, rfl, ha, b, r⟩ := Rp.tup st rx
    refine .inl ⟨a, vs, rfl, SqT.of ha, fun e => ?_, fun _ p hp => f.newT st (r.cut lo hi) hp⟩
    rw [r.len] at e
    rw [cutL_whole e] at f
    exact f.here st ⟨a, vs, rfl, b, r⟩
  · obtain ⟨a, vs, rfl, ha, b, r⟩ := Rp.lst st rx
    exact .inr (.inl ⟨a, vs, rfl, SqL.of ha, fun p hp => f.newL st (r.cut lo hi) hp⟩)
  · split at f
    · rename_i h
      cases rx
      exact .inr (.inr ⟨_, rfl, line_le h, f.here st rfl⟩)
    · exact f.elim
  · split at f
    · rename_i e
      obtain ⟨a, o, rfl, _, ha, vs, rfl, r⟩ := Rp.ptr st rx e
      exact .inr (.inl ⟨a, vs, rfl, SqL.of ha, fun p hp => f.newL st (r.cut lo hi) hp⟩)
    · exact f.elim
  · exact f.elim
theorem e_cut {e : Expr} {lo hi : Option Expr} {ce : CE} {cl ch : CO} {p2 pos : Pos} (he : PE X e (rdE T W ce)) (hl : PO X lo (rd T rO W cl)) (hu : PO X hi (rd T rO W ch)) : PE X (.Subscript e (.Slice lo hi none p2) pos) (rdE T W (cCut ce cl ch)) := by
  refine pe_imp (pe_slice sl_any he hl hu) ?_
  rintro s H Q ⟨H0, I, B, z, S, a, h⟩
  refine bind (rep := Rp) (rep2 := Rp) (Q := Q) a h fun J B' H' S' v x g a1 r1 f1 => ?_
  refine bind (rep := rO) (rep2 := Rp) (Q := Q) a1 f1 fun J2 B2 H2 S2 l l' g2 a2 r2 f2 => ?_
  refine bind (rep := rO) (rep2 := Rp) (Q := Q) a2 f2 fun J3 B3 H3 S3 u u' g3 a3 r3 f3 => ?_
  cases r2; cases r3
  exact k_cut a3.st ((r1.gr g2).gr g3) f3

/-! ### displays, calls of built-ins -/
section
variable {e : Expr} {es : List Expr} {ca : CA} {pos : Pos}
theorem e_tup {x1} (h : PA X es (rdA T W ca)) : PE X (.Tuple es x1 pos) (rdE T W (cTup ca)) := by
  refine pe_imp (pe_tup h) ?_
  rintro s H Q ⟨H0, I, B, z, S, a, h⟩
  refine bind (rep := Rps) (rep2 := Rp) (Q := Q) a h fun J B' H' S' v x g a1 r1 f1 => ?_
  split at f1
  · rename_i hl
    exact ⟨by rw [r1.len]; exact line_le hl, fun p hp => f1.newT a1.st r1 hp⟩
  · exact f1.elim
theorem e_lst (h : PA X es (rdA T W ca)) : PE X (.List es pos) (rdE T W (cLst ca)) := by
  refine pe_imp (pe_lst h) ?_
  rintro s H Q ⟨H0, I, B, z, S, a, h⟩
  refine bind (rep := Rps) (rep2 := Rp) (Q := Q) a h fun J B' H' S' v x g a1 r1 f1 => ?_
  split at f1
  · rename_i hl
    exact ⟨by rw [r1.len]; exact line_le hl, fun p hp => f1.newL a1.st r1 hp⟩
  · exact f1.elim
theorem app {r : List V → Hp → VK → Prop} {f : List D → Store → R D} (hf : OkA T.tabs r f) {s : L2.St} {H : Hp} {Q : VK} (h : rdE T W (cApp f ca) s H Q) : tCB r (rdA T W ca) s H Q := by
  obtain ⟨H0, I, B, z, S, a, h⟩ := h
  exact bind (rep := Rps) (rep2 := Rp) (Q := Q) a h fun J B' H' S' v x g a1 r1 f1 => hf a1.st r1 f1
/-- f(e, ..), f a built-in function; T(e, ..), T a built-in type -/
theorem e_callB {x : Str} {p : Pos} {id : String} {r : List V → Hp → VK → Prop} {f : List D → Store → R D} (hc : CallR X (.builtin id) r) (hf : OkA T.tabs r f) (hg : Gl X x) (hm : X.mg x = none) (hv : bootBuiltins x = some (.builtin id)) (ha : PA X (e :: es) (rdA T W ca))
    (hn : x ≠ "__name__" := by decide) (hdb : (x == ("__debug__" : Str)) = false := by decide)
    (he : starEach (e :: es) X.env = (false, eval e X.env) :: starEach es X.env := by rfl) (hpl : (backTo pos (starEach es X.env)).any (·.1) = false := by rfl) : PE X (.Call (.Name x p) (e :: es) [] pos) (rdE T W (cApp f ca)) :=
  pe_imp (pe_callB hc hg hm hv ha hn hdb he hpl) fun _ _ _ h => app hf h
theorem e_callTy {x : Str} {p : Pos} {id : String} {r : List V → Hp → VK → Prop} {f : List D → Store → R D} (hc : CallR X (.type id) r) (hf : OkA T.tabs r f) (hg : Gl X x) (hm : X.mg x = none) (hv : bootBuiltins x = some (.type id)) (ha : PA X (e :: es) (rdA T W ca))
    (hn : x ≠ "__name__" := by decide) (hdb : (x == ("__debug__" : Str)) = false := by decide)
    (he : starEach (e :: es) X.env = (false, eval e X.env) :: starEach es X.env := by rfl) (hpl : (backTo pos (starEach es X.env)).any (·.1) = false := by rfl) : PE X (.Call (.Name x p) (e :: es) [] pos) (rdE T W (cApp f ca)) :=
  pe_imp (pe_callTy hc hg hm hv ha hn hdb he hpl) fun _ _ _ h => app hf h
end

/-! ### the built-ins -/
theorem Rps.one {I : List Addr} {B : Hp} {vs : List V} {x : D} (r : Rps I B vs [x]) : ∃ v, vs = [v] ∧ Rp I B v x := by
  match vs, r with
  | [v], r => exact ⟨v, rfl, r.1⟩
theorem Rps.two {I : List Addr} {B : Hp} {vs : List V} {x y : D} (r : Rps I B vs [x, y]) : ∃ v u, vs = [v, u] ∧ Rp I B v x ∧ Rp I B u y := by
  match vs, r with
  | [v, u], r => exact ⟨v, u, rfl, r.1, r.2.1⟩
theorem items_ty {K : PySem.W.Frag} (hK : K = TheK.K) {I : List Addr} {B H : Hp} {S : Store} {v : V} {x : D} (st : Sto L I B H S) {xs : List D} (r : Rp I B v x) (e : itemsOf S x = some xs) : ∃ a vs, v = .ref a ∧ (SqL K H a vs ∨ SqT K H a vs) ∧ vs.length = xs.length ∧ Rps I B vs xs := by
  obtain ⟨a, vs, h1, h2, h3⟩ := items hK st r e
  exact ⟨a, vs, h1, h2, h3.len, h3⟩
theorem k_len {K : PySem.W.Frag} (hK : K = TheK.K) : OkA L (fun xs H Q => ∃ x n, xs = [x] ∧ LenV K x H n ∧ Q (.int n) H) bLen := by
  intro W s I B H Q S vs xs st r f
  unfold bLen at f
  split at f
  · obtain ⟨v, rfl, rv⟩ := r.one
    cases rv
    split at f
    · rename_i h
      exact ⟨_, _, rfl, ⟨line_le h, rfl⟩, f.here st rfl⟩
    · exact f.elim
  · obtain ⟨v, rfl, rv⟩ := r.one
    cases rv
    split at f
    · rename_i h
      exact ⟨_, _, rfl, ⟨line_le h, rfl⟩, f.here st rfl⟩
    · exact f.elim
  · obtain ⟨v, rfl, rv⟩ := r.one
    split at f
    · rename_i ys e
      obtain ⟨a, ws, rfl, h, hl, _⟩ := items_ty hK st rv e
      refine ⟨_, ys.length, rfl, ?_, f.here st rfl⟩
      rcases h with h | h
      · exact .inl ⟨ws, h, hl.symm⟩
      · exact .inr ⟨ws, h, hl.symm⟩
    · exact f.elim
  · exact f.elim
theorem k_int : OkA L (fun xs H Q => (∃ i, xs = [.int i] ∧ Q (.int i) H) ∨ ∃ k, xs = [.bl k] ∧ Q (.int (if k then 1 else 0)) H) bInt := by
  intro W s I B H Q S vs xs st r f
  unfold bInt at f
  split at f
  · obtain ⟨v, rfl, rv⟩ := r.one
    cases rv
    exact .inl ⟨_, rfl, f.here st rfl⟩
  · obtain ⟨v, rfl, rv⟩ := r.one
    cases rv
    exact .inr ⟨_, rfl, f.here st rfl⟩
  · exact f.elim
theorem k_max2 : OkA L (fun xs H Q => ∃ i j, xs = [.int i, .int j] ∧ Q (.int (if j > i then j else i)) H) bMax2 := by
  intro W s I B H Q S vs xs st r f
  unfold bMax2 at f
  split at f
  · obtain ⟨v, u, rfl, rv, ru⟩ := r.two
    cases rv; cases ru
    exact ⟨_, _, rfl, f.here st rfl⟩
  · exact f.elim
theorem k_min2 : OkA L (fun xs H Q => ∃ i j, xs = [.int i, .int j] ∧ Q (.int (if j < i then j else i)) H) bMin2 := by
  intro W s I B H Q S vs xs st r f
  unfold bMin2 at f
  split at f
  · obtain ⟨v, u, rfl, rv, ru⟩ := r.two
    cases rv; cases ru
    exact ⟨_, _, rfl, f.here st rfl⟩
  · exact f.elim
theorem k_list {K : PySem.W.Frag} (hK : K = TheK.K) : OkA L (fun xs H Q => ∃ p ys, xs = [.ref p] ∧ (SqL K H p ys ∨ SqT K H p ys) ∧ ∀ l, H l = none → Q (.ref l) (upd H l (.lst ys))) bList := by
  intro W s I B H Q S vs xs st r f
  unfold bList at f
  split at f
  · obtain ⟨v, rfl, rv⟩ := r.one
    split at f
    · rename_i ys e
      obtain ⟨a, ws, rfl, h, hl, hr⟩ := items_ty hK st rv e
      exact ⟨a, ws, rfl, h, fun p hp => f.newL st hr hp⟩
    · exact f.elim
  · exact f.elim
theorem k_tuple {K : PySem.W.Frag} (hK : K = TheK.K) : OkA L (fun xs H Q => ∃ p ys, xs = [.ref p] ∧ ((SqL K H p ys ∧ ∀ l, H l = none → Q (.ref l) (upd H l (.tup ys))) ∨ (SqT K H p ys ∧ Q (.ref p) H))) bTuple := by
  subst hK
  intro W s I B H Q S vs xs st r f
  unfold bTuple at f
  split at f
  · obtain ⟨v, rfl, rv⟩ := r.one
    obtain ⟨a, ws, rfl, ha, b, hr⟩ := Rp.tup st rv
    exact ⟨a, ws, rfl, .inr ⟨SqT.of ha, f.here st rv⟩⟩
  · obtain ⟨v, rfl, rv⟩ := r.one
    obtain ⟨a, ws, rfl, ha, b, hr⟩ := Rp.lst st rv
    exact ⟨a, ws, rfl, .inl ⟨SqL.of ha, fun p hp => f.newT st hr hp⟩⟩
  · obtain ⟨v, rfl, rv⟩ := r.one
    obtain ⟨a, rfl, ha⟩ := rv
    exact ⟨a, _, rfl, .inl ⟨st.scr ha, fun p hp => f.newT st (Rps.ints _) hp⟩⟩
  · obtain ⟨v, rfl, rv⟩ := r.one
    split at f
    · rename_i e
      obtain ⟨a, o, rfl, _, ha, ws, rfl, hr⟩ := Rp.ptr st rv e
      exact ⟨a, ws, rfl, .inl ⟨SqL.of ha, fun p hp => f.newT st hr hp⟩⟩
    · exact f.elim
  · exact f.elim
theorem k_strI : OkA L (fun xs H Q => ∃ i, xs = [.int i] ∧ i.natAbs.log2 < 1920 ∧ Q (.str (toString i)) H) bStrI := by
  intro W s I B H Q S vs xs st r f
  unfold bStrI at f
  split at f
  · obtain ⟨v, rfl, rv⟩ := r.one
    cases rv
    split at f
    · rename_i h
      exact ⟨_, rfl, h, f.here st rfl⟩
    · exact f.elim
  · exact f.elim
theorem intsOf_rps {I : List Addr} {B : Hp} : ∀ {vs : List V} {xs : List D} {ns : List Int}, Rps I B vs xs → intsOf xs = some ns → vs = ns.map V.int
  | [], [], ns, _, e => by unfold intsOf at e; cases e; rfl
  | v :: vs, .int i :: xs, ns, r, e => by
    unfold intsOf at e
    cases q : intsOf xs with
    | none => rw [q] at e; cases e
    | some ms =>
      rw [q] at e; cases e
      have h1 : v = .int i := r.1
      rw [h1, intsOf_rps r.2 q]; rfl
  | [], _ :: _, _, r, _ => r.elim
  | _ :: _, [], _, r, _ => r.elim
  | _ :: _, .non :: _, _, _, e => by cases e
  | _ :: _, .bl _ :: _, _, _, e => by cases e
  | _ :: _, .str _ :: _, _, _, e => by cases e
  | _ :: _, .byt _ :: _, _, _, e => by cases e
  | _ :: _, .tup _ :: _, _, _, e => by cases e
  | _ :: _, .lst _ :: _, _, _, e => by cases e
  | _ :: _, .scr _ :: _, _, _, e => by cases e
  | _ :: _, .dct _ _ :: _, _, _, e => by cases e
  | _ :: _, .obj _ _ _ :: _, _, _, e => by cases e
  | _ :: _, .ptr _ :: _, _, _, e => by cases e
  | _ :: _, .ref _ :: _, _, _, e => by cases e
  | _ :: _, .ty _ :: _, _, _, e => by cases e
end CL
set_option Elab.async false
set_option linter.all false
set_option maxRecDepth 100000
/-! CL6: states: stores into slots, own objects, the store. -/
namespace CL
open PySem PySem.Spec PyProof.Rows L2
variable [TheK]
variable {L : Tl} {T : Pm} {X : Cx} {W : WX}
section
variable {H0 : Hp} {I J : List Addr} {B H B' H' I0B : Hp} {I0 : List Addr} {s : L2.St} {z : Sl} {S : Store} {i j : Nat} {v : V} {x : D} {a p : Addr} {xs : List D} {vs : List V}

theorem RpM.nt {u : HO} {m : MO} (r : RpM I B u m) : ∀ ps, u ≠ .tbl ps := fun ps e => by
  subst e
  cases m with
  | lst _ => obtain ⟨_, h, _⟩ := r; cases h
  | dct _ _ => obtain ⟨_, h, _⟩ := r; cases h
  | ins _ _ _ => obtain ⟨_, _, h, _⟩ := r; cases h
theorem At.len (h : At T H0 I B H s z S) : s.length = z.length := h.sl.len
/-- a slot is stored -/
theorem At.setD (h : At T H0 I B H s z S) (i : Nat) (r : Rp I B v x) : At T H0 I B H (s.set i (some v)) (z.set i (.d x)) S := by
  refine ⟨⟨by simp [h.sl.len], fun j o y h1 h2 => ?_, fun j k b y w h1 h2 h3 h4 o1 o2 => ?_⟩, h.st⟩
  · rw [List.getElem?_set] at h1 h2
    by_cases e : i = j
    · subst e
      rw [if_pos rfl] at h1 h2
      split at h1
      · split at h2
        · cases h1; cases h2
          exact ⟨v, rfl, r⟩
        · cases h2
      · cases h1
    · rw [if_neg e] at h1 h2
      exact h.sl.ok j o y h1 h2
  · have q : ∀ {k : Nat} {w : SV}, (z.set i (.d x))[k]? = some w → isOwn w = true → k ≠ i := fun {k w} e o q => by
      subst q
      rw [List.getElem?_set_self'] at e
      cases t : z[k]? with
      | none => rw [t] at e; cases e
      | some _ => rw [t] at e; cases e; cases o
    have n1 := q h3 o1
    have n2 := q h4 o2
    rw [List.getElem?_set_ne (Ne.symm n1)] at h1 h3
    rw [List.getElem?_set_ne (Ne.symm n2)] at h2 h4
    exact h.sl.ne j k b y w h1 h2 h3 h4 o1 o2
theorem At.setU (h : At T H0 I B H s z S) (i : Nat) (o : Option V) : At T H0 I B H (s.set i o) (z.set i .u) S := by
  refine ⟨⟨by simp [h.sl.len], fun j o' y h1 h2 => ?_, fun j k b y w h1 h2 h3 h4 o1 o2 => ?_⟩, h.st⟩
  · rw [List.getElem?_set] at h1 h2
    by_cases e : i = j
    · subst e
      rw [if_pos rfl] at h1 h2
      split at h1
      · split at h2
        · cases h1; cases h2
          trivial
        · cases h2
      · cases h1
    · rw [if_neg e] at h1 h2
      exact h.sl.ok j o' y h1 h2
  · have q : ∀ {k : Nat} {w : SV}, (z.set i .u)[k]? = some w → isOwn w = true → k ≠ i := fun {k w} e o q => by
      subst q
      rw [List.getElem?_set_self'] at e
      cases t : z[k]? with
      | none => rw [t] at e; cases e
      | some _ => rw [t] at e; cases e; cases o
    have n1 := q h3 o1
    have n2 := q h4 o2
    rw [List.getElem?_set_ne (Ne.symm n1)] at h1 h3
    rw [List.getElem?_set_ne (Ne.symm n2)] at h2 h4
    exact h.sl.ne j k b y w h1 h2 h3 h4 o1 o2
theorem Sto.notIn (st : Sto L I B H S) (hp : H p = none) : p ∉ I := fun ha => by
  obtain ⟨k, hk⟩ := List.mem_iff_getElem?.mp ha
  have hl : k < S.length := by
    have := (List.getElem?_eq_some_iff.mp hk).1
    rw [st.len] at this; exact this
  obtain ⟨b, u, h1, h2, _⟩ := st.at_ k S[k] (List.getElem?_eq_getElem hl)
  rw [hk] at h1; cases h1
  rw [hp] at h2; cases h2
theorem Sto.noB (st : Sto L I B H S) (hp : H p = none) : B p = none := by
  cases q : B p with
  | none => rfl
  | some o => rw [st.sub _ _ q] at hp; cases hp
/-- all stands as it stood: a slot stands -/
theorem SlotOk.keep {T : Pm} {o : Option V} {y : SV} (h : SlotOk T H0 I B H o y) (k : ∀ b u, H b = some u → H' b = some u) : SlotOk T H0 I B H' o y := by
  cases y with
  | u => trivial
  | d x => exact h
  | l xs => obtain ⟨a, vs, e, ha, r, ow⟩ := h; exact ⟨a, vs, e, k _ _ ha, r, ow⟩
  | m ks xs => obtain ⟨a, vs, e, ha, hl, r, ow⟩ := h; exact ⟨a, vs, e, k _ _ ha, hl, r, ow⟩
  | f => obtain ⟨a, I1, B1, H1, h1, h2, h3, h4⟩ := h; exact ⟨a, I1, B1, H1, h1, h2, h3.more k, h4⟩
  | x e => exact h
theorem At.keep (h : At T H0 I B H s z S) (k : ∀ b u, H b = some u → H' b = some u) : At T H0 I B H' s z S :=
  ⟨⟨h.sl.len, fun i o x h1 h2 => (h.sl.ok i o x h1 h2).keep k, h.sl.ne⟩, h.st.mono_H k⟩
theorem own_at {T : Pm} {y : SV} (h : SlotOk T H0 I B H (some (V.ref a)) y) (o : isOwn y = true) : (∃ u, H a = some u ∧ (∀ ps, u ≠ .tbl ps) ∧ ∀ q, u ≠ HO.ext q) ∧ Own H0 I B a := by
  cases y with
  | l xs => obtain ⟨b, vs, e, ha, r, ow⟩ := h; cases e; exact ⟨⟨_, ha, (fun ps z => by cases z), (fun q z => by cases z)⟩, ow⟩
  | m ks xs => obtain ⟨b, vs, e, ha, hl, r, ow⟩ := h; cases e; exact ⟨⟨_, ha, (fun ps z => by cases z), (fun q z => by cases z)⟩, ow⟩
  | u => cases o
  | d x => cases o
  | f => cases o
  | x e => cases o
/-- an own list, an own dict is made -/
theorem At.newOwn (h : At T H0 I B H s z S) (i : Nat) (g0 : Fr H0 p) (hp : H p = none) {o : HO} {y : SV} (ok : SlotOk T H0 I B (upd H p o) (some (.ref p)) y) : At T H0 I B (upd H p o) (s.set i (some (.ref p))) (z.set i y) S := by
  have h' := h.keep (keep_new (o := o) hp)
  refine ⟨⟨by simp [h.sl.len], fun j o' w h1 h2 => ?_, fun j k b w w' h1 h2 h3 h4 o1 o2 => ?_⟩, h'.st⟩
  · rw [List.getElem?_set] at h1 h2
    by_cases e : i = j
    · subst e
      rw [if_pos rfl] at h1 h2
      split at h1
      · split at h2
        · cases h1; cases h2; exact ok
        · cases h2
      · cases h1
    · rw [if_neg e] at h1 h2
      exact h'.sl.ok j o' w h1 h2
  · have q : ∀ {k : Nat} {w : SV}, k ≠ i → (s.set i (some (.ref p)))[k]? = some (some (V.ref b)) → (z.set i y)[k]? = some w → isOwn w = true → b ≠ p := fun {k w} n e1 e2 o => by
      rw [List.getElem?_set_ne (Ne.symm n)] at e1 e2
      obtain ⟨⟨u, hu, _⟩, _⟩ := own_at (h.sl.ok k _ w e1 e2) o
      intro e; subst e; rw [hp] at hu; cases hu
    have self : ∀ {k : Nat}, k = i → (s.set i (some (.ref p)))[k]? = some (some (V.ref b)) → b = p := fun {k} n e1 => by
      subst n
      rw [List.getElem?_set_self'] at e1
      cases t : s[k]? with
      | none => rw [t] at e1; cases e1
      | some _ => rw [t] at e1; cases e1; rfl
    by_cases n1 : j = i
    · by_cases n2 : k = i
      · rw [n1, n2]
      · exact absurd (self n1 h1) (q n2 h2 h4 o2)
    · by_cases n2 : k = i
      · exact absurd (self n2 h2) (q n1 h1 h3 o1)
      · rw [List.getElem?_set_ne (Ne.symm n1)] at h1 h3
        rw [List.getElem?_set_ne (Ne.symm n2)] at h2 h4
        exact h.sl.ne j k b w w' h1 h2 h3 h4 o1 o2
theorem tab_upd {o u : HO} (t : TbOk L H) (ha : H a = some o) (n1 : ∀ ps, o ≠ .tbl ps) (n2 : ∀ f, o ≠ .ext f) : TbOk L (upd H a u) := by
  refine ⟨fun q hq => ?_, fun p hp => ?_⟩
  · obtain ⟨ps, h1, h2, h3⟩ := t.1 q hq
    refine ⟨ps, ?_, h2, fun pos cv e => ?_⟩
    · rw [upd_ne]
      · exact h1
      · intro e; rw [e, ha] at h1; cases h1; exact n1 _ rfl
    · obtain ⟨c, e1, e2⟩ := h3 pos cv e
      refine ⟨c, e1, ?_⟩
      rw [upd_ne]
      · exact e2
      · intro e; rw [e, ha] at e2; cases e2; exact n2 _ rfl
  · have e2 := t.2 p hp
    rw [upd_ne]
    · exact e2
    · intro e; rw [e, ha] at e2; cases e2; exact n2 _ rfl
theorem gr_own (g : Gr I0 I0B H0 I B H) (h0 : Fr H0 a) {u : HO} : Gr I0 I0B H0 I B (upd H a u) where
  pre := g.pre
  ext := g.ext
  new := g.new
  keep := fun b o h n t => by
    have ne : b ≠ a := fun e => by subst e; exact h0.no h t
    rw [upd_ne ne]; exact g.keep b o h n t
  dom := fun b h => by
    by_cases e : b = a
    · exact e ▸ h0
    · exact g.dom b (h.down fun q => (e q).elim)
/-- an own object is written -/
theorem At.setOwn (h : At T H0 I B H s z S) (i : Nat) {o u : HO} {y y' : SV} (hs : s[i]? = some (some (.ref a))) (hz : z[i]? = some y) (oy : isOwn y = true) (ha : H a = some o) (n1 : ∀ ps, o ≠ .tbl ps) (n2 : ∀ f, o ≠ .ext f) (ow : Own H0 I B a)
    (ok : SlotOk T H0 I B (upd H a u) (some (.ref a)) y') : At T H0 I B (upd H a u) s (z.set i y') S := by
  have other : ∀ {k : Nat} {b : Addr} {w : SV}, k ≠ i → s[k]? = some (some (V.ref b)) → z[k]? = some w → isOwn w = true → b ≠ a := fun {k b w} n e1 e2 o3 e => by
    subst e
    exact n (h.sl.ne k i b w y e1 hs e2 hz o3 oy)
  refine ⟨⟨by simp [h.sl.len], fun j o' w h1 h2 => ?_, fun j k b w w' h1 h2 h3 h4 o1 o2 => ?_⟩, ?_⟩
  · rw [List.getElem?_set] at h2
    by_cases e : i = j
    · subst e
      rw [if_pos rfl] at h2
      rw [hs] at h1
      cases h1
      split at h2
      · cases h2; exact ok
      · cases h2
    · rw [if_neg e] at h2
      have q := h.sl.ok j o' w h1 h2
      cases w with
      | u => trivial
      | d x => exact q
      | l xs =>
        obtain ⟨b, vs, rfl, hb, r, ow'⟩ := q
        exact ⟨b, vs, rfl, by rw [upd_ne (other (Ne.symm e) h1 h2 rfl)]; exact hb, r, ow'⟩
      | m ks xs =>
        obtain ⟨b, vs, rfl, hb, hl, r, ow'⟩ := q
        exact ⟨b, vs, rfl, by rw [upd_ne (other (Ne.symm e) h1 h2 rfl)]; exact hb, hl, r, ow'⟩
      | f => obtain ⟨a', I1, B1, H1, h1, h2, h3, h4⟩ := q; exact ⟨a', I1, B1, H1, h1, h2, gr_own h3 (h4 _ ow.1), h4⟩
      | x e => exact q
  · have old : ∀ {k : Nat} {w : SV}, (z.set i y')[k]? = some w → isOwn w = true → ∃ w0, z[k]? = some w0 ∧ isOwn w0 = true := fun {k w} e o3 => by
      by_cases n : k = i
      · subst n; exact ⟨y, hz, oy⟩
      · rw [List.getElem?_set_ne (Ne.symm n)] at e; exact ⟨w, e, o3⟩
    obtain ⟨w0, e1, e2⟩ := old h3 o1
    obtain ⟨w1, e3, e4⟩ := old h4 o2
    exact h.sl.ne j k b w0 w1 h1 h2 e1 e3 e2 e4
  · have st := h.st
    refine ⟨st.len, st.nd, st.dj, fun b w q => ?_, st.nt, fun k m q => ?_, tab_upd st.tb ha n1 n2⟩
    · rw [upd_ne]
      · exact st.sub b w q
      · intro e; subst e; rw [ow.2.1] at q; cases q
    · obtain ⟨b, w, h1, h2, h3⟩ := st.at_ k m q
      refine ⟨b, w, h1, ?_, h3⟩
      rw [upd_ne]
      · exact h2
      · intro e; subst e; exact ow.2.2 (List.mem_of_getElem? h1)
theorem gr_write (hI : a ∈ I) {u : HO} (nt : ∀ ps, u ≠ .tbl ps) : Gr I B H I B (upd H a u) where
  pre := ⟨[], by simp, by simp⟩
  ext := fun _ _ h => h
  new := fun _ _ h => .inl h
  keep := fun b o h n t => by
    have ne : b ≠ a := fun e => n (e ▸ hI)
    rw [upd_ne ne]; exact h
  dom := fun b h => h.down fun q => by
    subst q
    exact (h.no upd_same nt).elim
/-- an object of the store is written -/
theorem At.write (h : At T H0 I B H s z S) {o u : HO} {m : MO} (hj : I[j]? = some a) (ha : H a = some o) (n1 : ∀ ps, o ≠ .tbl ps) (n2 : ∀ f, o ≠ .ext f) (r : RpM I B u m) : At T H0 I B (upd H a u) s z (S.set j m) := by
  have hI : a ∈ I := List.mem_of_getElem? hj
  have st := h.st
  refine ⟨⟨h.sl.len, fun i o' y h1 h2 => ?_, h.sl.ne⟩, by simpa using st.len, st.nd, st.dj, fun b w q => ?_, st.nt, fun k m' q => ?_, tab_upd st.tb ha n1 n2⟩
  · have q := h.sl.ok i o' y h1 h2
    have ne : ∀ {b : Addr}, Own H0 I B b → b ≠ a := fun {b} ow e => by subst e; exact ow.2.2 hI
    cases y with
    | u => trivial
    | d x => exact q
    | l xs => obtain ⟨b, vs, e, hb, r, ow⟩ := q; exact ⟨b, vs, e, by rw [upd_ne (ne ow)]; exact hb, r, ow⟩
    | m ks xs => obtain ⟨b, vs, e, hb, hl, r, ow⟩ := q; exact ⟨b, vs, e, by rw [upd_ne (ne ow)]; exact hb, hl, r, ow⟩
    | f =>
      obtain ⟨a', I1, B1, H1, e1, e2, e3, e4⟩ := q
      exact ⟨a', I1, B1, H1, e1, e2, e3.trans (gr_write hI r.nt), e4⟩
    | x e => exact q
  · rw [upd_ne]
    · exact st.sub b w q
    · intro e; subst e; rw [st.dj b hI] at q; cases q
  · rw [List.getElem?_set] at q
    by_cases e : j = k
    · subst e
      rw [if_pos rfl] at q
      split at q
      · cases q
        exact ⟨a, u, hj, upd_same, r⟩
      · cases q
    · rw [if_neg e] at q
      obtain ⟨b, w, h1, h2, h3⟩ := st.at_ k m' q
      refine ⟨b, w, h1, ?_, h3⟩
      rw [upd_ne]
      · exact h2
      · intro q; subst q
        exact e ((List.getElem?_inj (List.getElem?_eq_some_iff.mp hj).1 st.nd).mp (hj.trans h1.symm))
theorem gr_grow (st : Sto L I B H S) (hp : H p = none) {u : HO} : Gr I B H (I ++ [p]) B (upd H p u) where
  pre := ⟨[p], rfl, fun a ha => by
    have : a = p := by simpa using ha
    subst this; exact .of hp⟩
  ext := fun _ _ h => h
  new := fun _ _ h => .inl h
  keep := fun b o h _ _ => keep_new hp b o h
  dom := fun b h => h.down fun q => by subst q; exact .of hp
/-- a new object of the store -/
theorem At.grow (h : At T H0 I B H s z S) {u : HO} {m : MO} (hp : H p = none) (r : RpM (I ++ [p]) B u m) : At T H0 (I ++ [p]) B (upd H p u) s z (S ++ [m]) := by
  have st := h.st
  have hpI := st.notIn hp
  have k := keep_new (o := u) hp
  refine ⟨⟨h.sl.len, fun i o y h1 h2 => ?_, h.sl.ne⟩, by simp [st.len], ?_, fun b hb => ?_, fun b w q => k _ _ (st.sub b w q), st.nt, fun i m' q => ?_, st.tb.ext k⟩
  · have q := (h.sl.ok i o y h1 h2).keep k
    have ow' : ∀ {b : Addr} {w : HO}, H b = some w → Own H0 I B b → Own H0 (I ++ [p]) B b := fun {b w} hb ow => ⟨ow.1, ow.2.1, fun hm => by
      rcases List.mem_append.mp hm with e | e
      · exact ow.2.2 e
      · have e' : b = p := by simpa using e
        subst e'; rw [hp] at hb; cases hb⟩
    have q0 := h.sl.ok i o y h1 h2
    cases y with
    | u => trivial
    | d x => obtain ⟨v, e, r⟩ := q; exact ⟨v, e, Rp.mono ⟨[p], rfl⟩ (fun _ _ h => h) x r⟩
    | l xs =>
      obtain ⟨b, vs, e, hb, r, ow⟩ := q0
      exact ⟨b, vs, e, k _ _ hb, r.mono ⟨[p], rfl⟩ (xs := xs) fun _ _ h => h, ow' hb ow⟩
    | m ks xs =>
      obtain ⟨b, vs, e, hb, hl, r, ow⟩ := q0
      exact ⟨b, vs, e, k _ _ hb, hl, r.mono ⟨[p], rfl⟩ (xs := xs) fun _ _ h => h, ow' hb ow⟩
    | f =>
      obtain ⟨a', I1, B1, H1, e1, e2, e3, e4⟩ := q0
      exact ⟨a', I1, B1, H1, e1, e2, e3.trans (gr_grow st hp), e4⟩
    | x e =>
      obtain ⟨a, d, h1, h2, h3⟩ := q
      exact ⟨a, d, h1, h2, h3.mono ⟨[p], rfl⟩ fun _ _ h => h⟩
  · rw [List.nodup_append]
    exact ⟨st.nd, by simp, fun b hb c hc => by
      have : c = p := by simpa using hc
      subst this
      intro e; subst e; exact hpI hb⟩
  · rcases List.mem_append.mp hb with e | e
    · exact st.dj b e
    · have : b = p := by simpa using e
      subst this; exact st.noB hp
  · by_cases hi : i < S.length
    · rw [List.getElem?_append_left hi] at q
      obtain ⟨b, w, h1, h2, h3⟩ := st.at_ i m' q
      exact ⟨b, w, by rw [List.getElem?_append_left (by rw [st.len]; exact hi)]; exact h1, k _ _ h2, h3.mono ⟨[p], rfl⟩ fun _ _ h => h⟩
    · have hl := (List.getElem?_eq_some_iff.mp q).1
      have e : i = S.length := by simp at hl; omega
      subst e
      simp at q
      subst q
      exact ⟨p, u, by rw [← st.len]; simp, upd_same, r⟩
end
end CL
set_option Elab.async false
set_option linter.all false
set_option maxRecDepth 100000
/-! CL7: statements. -/
namespace CL
open PySem PySem.Spec PyProof.Rows L2
variable [TheK]
variable {L : Tl} {T : Pm} {X : Cx} {W : WX}

/-- what never shrinks -/
structure GB (I : List Addr) (B : Hp) (J : List Addr) (B' : Hp) : Prop where
  sub : ∃ k, J = I ++ k
  ext : ∀ a o, B a = some o → B' a = some o
theorem GB.rfl {I : List Addr} {B : Hp} : GB I B I B := ⟨⟨[], by simp⟩, fun _ _ h => h⟩
theorem GB.trans {I J L : List Addr} {B B' B2 : Hp} (g : GB I B J B') (k : GB J B' L B2) : GB I B L B2 := by
  obtain ⟨k1, rfl⟩ := g.sub
  obtain ⟨k2, rfl⟩ := k.sub
  exact ⟨⟨k1 ++ k2, by simp⟩, fun a o h => k.ext a o (g.ext a o h)⟩
theorem Gr.gb {I J : List Addr} {B B' H H' : Hp} (g : Gr I B H J B' H') : GB I B J B' := ⟨g.sub, g.ext⟩
section
variable (T) (I0 : List Addr) (B0 H0 : Hp) (W : WX) (I : List Addr) (B : Hp)
def FinS (D : Ends) : O → Prop
  | .nx z S => ∀ J B' H s, Gr I0 B0 H0 J B' H → GB I B J B' → At T H0 J B' H s z S → D.nx s H
  | .bk z S => ∀ J B' H s, Gr I0 B0 H0 J B' H → GB I B J B' → At T H0 J B' H s z S → D.bk s H
  | .ct z S => ∀ J B' H s, Gr I0 B0 H0 J B' H → GB I B J B' → At T H0 J B' H s z S → D.ct s H
  | .rt d S => ∀ J B' H v, Gr I0 B0 H0 J B' H → GB I B J B' → Sto T.tabs J B' H S → Rp J B' v d → D.rt v H
  | .exc x z S => ∀ J B' H s c dd, Gr I0 B0 H0 J B' H → GB I B J B' → At T H0 J B' H s z S → RpX J B' c dd x → W c dd s H
  | .bad => False
end
section
variable (T) (I0 : List Addr) (B0 H0 : Hp) (W : WX)
def rdS (c : CS) : TS := fun D s H => ∃ I B z S, Gr I0 B0 H0 I B H ∧ At T H0 I B H s z S ∧ FinS T I0 B0 H0 W I B D (c z S)
end
theorem FinS.gb {I0 : List Addr} {B0 H0 : Hp} {I J : List Addr} {B B' : Hp} {En : Ends} {o : O} (h : FinS T I0 B0 H0 W I B En o) (g : GB I B J B') : FinS T I0 B0 H0 W J B' En o := by
  cases o with
  | nx z S => exact fun J2 B2 H s g0 g2 => h J2 B2 H s g0 (g.trans g2)
  | bk z S => exact fun J2 B2 H s g0 g2 => h J2 B2 H s g0 (g.trans g2)
  | ct z S => exact fun J2 B2 H s g0 g2 => h J2 B2 H s g0 (g.trans g2)
  | rt d S => exact fun J2 B2 H v g0 g2 => h J2 B2 H v g0 (g.trans g2)
  | exc x z S => exact fun J2 B2 H s c dd g0 g2 => h J2 B2 H s c dd g0 (g.trans g2)
  | bad => exact h
section
variable {I0 : List Addr} {B0 H0 : Hp} {I : List Addr} {B H : Hp} {s : L2.St} {z : Sl} {S : Store} {D : Ends}
theorem gr0 {I J : List Addr} {B B' H H' : Hp} (g : Gr I0 B0 H0 I B H) (k : Gr I B H J B' H') : Gr I0 B0 H0 J B' H' := g.trans k
/-- a piece within a statement -/
theorem sdo {α β : Type} {rep : List Addr → Hp → β → α → Prop} {ca : C α} {f : α → Store → O} {P : β → Hp → Prop} (g0 : Gr I0 B0 H0 I B H) (a : At T H0 I B H s z S) (h : FinS T I0 B0 H0 W I B D (oDo (ca z S) z f))
    (k : ∀ J B' H' S' v x, Gr I0 B0 H0 J B' H' → Gr I B H J B' H' → At T H0 J B' H' s z S' → rep J B' v x → FinS T I0 B0 H0 W J B' D (f x S') → P v H') : rd T rep W ca s H P := by
  refine ⟨H0, I, B, z, S, a, ?_⟩
  cases e : ca z S with
  | ok x S' =>
    rw [e] at h
    exact fun J B' H' v g st r => k J B' H' S' v x (g0.trans g) g (a.gr g st) r (h.gb g.gb)
  | exc x S' =>
    rw [e] at h
    exact fun J B' H' c dd g st r => h J B' H' s c dd (g0.trans g) g.gb (a.gr g st) r
  | bad =>
    rw [e] at h
    exact h.elim
variable {e : Expr} {ce : CE} {pos : Pos} {st : Stmt} {rest : List Stmt} {c c2 : CS}
theorem s_nil : PSs X [] (rdS T I0 B0 H0 W sNil) := by
  refine pss_imp pss_nil ?_
  rintro D s H ⟨I, B, z, S, g, a, f⟩
  exact f I B H s g GB.rfl a
theorem s_pass : PS X (.Pass pos) (rdS T I0 B0 H0 W sNil) := by
  refine ps_imp ps_pass ?_
  rintro D s H ⟨I, B, z, S, g, a, f⟩
  exact f I B H s g GB.rfl a
theorem s_break : PS X (.Break pos) (rdS T I0 B0 H0 W sBreak) := by
  refine ps_imp ps_break ?_
  rintro D s H ⟨I, B, z, S, g, a, f⟩
  exact f I B H s g GB.rfl a
theorem s_cont : PS X (.Continue pos) (rdS T I0 B0 H0 W sCont) := by
  refine ps_imp ps_continue ?_
  rintro D s H ⟨I, B, z, S, g, a, f⟩
  exact f I B H s g GB.rfl a
theorem s_never : PS X st (rdS T I0 B0 H0 W sNever) := ⟨fun _ _ _ _ _ _ ⟨_, _, _, _, _, _, f⟩ => f.elim⟩
theorem ss_never {sts : List Stmt} : PSs X sts (rdS T I0 B0 H0 W sNever) := ⟨fun _ _ _ _ _ _ ⟨_, _, _, _, _, _, f⟩ => f.elim⟩
theorem s_one (h1 : PS X st (rdS T I0 B0 H0 W c)) : PSs X [st] (rdS T I0 B0 H0 W c) := pss_one h1
theorem s_cons (h1 : PS X st (rdS T I0 B0 H0 W c)) (h2 : PSs X rest (rdS T I0 B0 H0 W c2)) : PSs X (st :: rest) (rdS T I0 B0 H0 W (sSeq c c2)) := by
  refine pss_imp (pss_cons h1 h2) ?_
  rintro D s H ⟨I, B, z, S, g, a, f⟩
  refine ⟨I, B, z, S, g, a, ?_⟩
  unfold sSeq at f
  cases q : c z S with
  | nx z' S' =>
    rw [q] at f
    exact fun J B' H' s' g' gb a' => ⟨J, B', z', S', g', a', FinS.gb f gb⟩
  | rt d S' => rw [q] at f; exact f
  | bk z' S' => rw [q] at f; exact f
  | ct z' S' => rw [q] at f; exact f
  | exc x z' S' => rw [q] at f; exact f
  | bad => rw [q] at f; exact f
theorem s_expr (he : PE X e (rdE T W ce)) (hs : swapsWith e none pos.line X.env = pure false := by rfl) : PS X (.Expr e pos) (rdS T I0 B0 H0 W (sExpr ce)) := by
  refine ps_imp (ps_expr he hs) ?_
  rintro D s H ⟨I, B, z, S, g, a, f⟩
  exact sdo (rep := Rp) g a f fun J B' H' S' v x g0 g1 a1 r1 f1 => f1 J B' H' s g0 GB.rfl a1
theorem s_doc {x j pos pos'} : PS X (.Expr (.Constant (.str x) j pos) pos') (rdS T I0 B0 H0 W sNil) := by
  refine ps_imp ps_doc ?_
  rintro D s H ⟨I, B, z, S, g, a, f⟩
  exact f I B H s g GB.rfl a
theorem s_ret (he : PE X e (rdE T W ce)) : PS X (.Return (some e) pos) (rdS T I0 B0 H0 W (sRet ce)) := by
  refine ps_imp (ps_ret he) ?_
  rintro D s H ⟨I, B, z, S, g, a, f⟩
  exact sdo (rep := Rp) g a f fun J B' H' S' v x g0 g1 a1 r1 f1 => f1 J B' H' v g0 GB.rfl a1.st r1
theorem s_retN : PS X (.Return none pos) (rdS T I0 B0 H0 W sRetN) := by
  refine ps_imp ps_retN ?_
  rintro D s H ⟨I, B, z, S, g, a, f⟩
  exact f I B H .non g GB.rfl a.st rfl
theorem s_if {cnd : Expr} {b1 b2 : List Stmt} {t : CT} (hc : PT X cnd (rdT T W t)) (ha : PSs X b1 (rdS T I0 B0 H0 W c)) (hb : PSs X b2 (rdS T I0 B0 H0 W c2)) : PS X (.If cnd b1 b2 pos) (rdS T I0 B0 H0 W (sIf t c c2)) := by
  refine ps_imp (ps_if hc ha hb) ?_
  rintro D s H ⟨I, B, z, S, g, a, f⟩
  refine sdo (rep := rB) g a f fun J B' H' S' v x g0 g1 a1 r1 f1 => ?_
  cases r1
  cases v with
  | true => exact ⟨J, B', z, S', g0, a1, f1⟩
  | false => exact ⟨J, B', z, S', g0, a1, f1⟩
theorem s_set {i : Nat} {x : Str} {pos' : Pos} (hN : X.N.Nodup) (hi : X.N[i]? = some x) (hx : Loc X.env.scope x) (he : PE X e (rdE T W ce)) (hs : swapsWith e (some (.Name x pos')) pos.line X.env = pure false := by rfl) (hf : X.fn x = true ∨ X.env.scope.names.lookup x = some .local := by first | exact .inl rfl | exact .inr rfl | assumption) :
    PS X (.Assign [.Name x pos'] e pos) (rdS T I0 B0 H0 W (sSet i ce)) := by
  refine ps_imp (ps_set hN hi hx he hs hf) ?_
  rintro D s H ⟨I, B, z, S, g, a, f⟩
  exact sdo (rep := Rp) g a f fun J B' H' S' v x g0 g1 a1 r1 f1 => f1 J B' H' _ g0 GB.rfl (a1.setD i r1)
/-- the statement's state, an own list laid down for good -/
theorem s_frz {i : Nat} (h : PS X st (rdS T I0 B0 H0 W c)) : PS X st (rdS T I0 B0 H0 W (sFrz i c)) := by
  refine ps_imp h ?_
  rintro D s H ⟨I, B, z, S, g, a, f⟩
  unfold sFrz at f
  split at f
  · rename_i xs e
    obtain ⟨o, hs, b, vs, rfl, hb, r, ow⟩ := a.sl.get e
    have hB : ∀ c u, B c = some u → upd B b (.lst vs) c = some u := fun c u h => by
      have : c ≠ b := fun q => by subst q; rw [ow.2.1] at h; cases h
      rw [upd_ne this]; exact h
    have g' : Gr I0 B0 H0 I (upd B b (.lst vs)) H := ⟨g.pre, fun c u h => hB c u (g.ext c u h), fun c u h => by
      by_cases q : c = b
      · exact .inr (q ▸ ow.1)
      · rw [upd_ne q] at h; exact g.new c u h, g.keep, g.dom⟩
    have r' : Rps I (upd B b (.lst vs)) vs xs := r.mono ⟨[], by simp⟩ (xs := xs) hB
    refine ⟨I, upd B b (.lst vs), z.set i (.d (.lst xs)), S, g', ?_, f.gb ⟨⟨[], by simp⟩, hB⟩⟩
    have so := a.st
    refine ⟨⟨by simp [a.sl.len], fun j o' y h1 h2 => ?_, fun j k c' y w h1 h2 h3 h4 o1 o2 => ?_⟩, so.len, so.nd, fun c hc => ?_, fun c u h => ?_, fun c u h => ?_, fun j m h => ?_, so.tb⟩
    · rw [List.getElem?_set] at h2
      by_cases q : i = j
      · subst q
        rw [if_pos rfl] at h2
        split at h2
        · cases h2
          rw [hs] at h1; cases h1
          exact ⟨_, rfl, b, vs, rfl, upd_same, r'⟩
        · cases h2
      · rw [if_neg q] at h2
        have p := a.sl.ok j o' y h1 h2
        have ne : ∀ {c' : Addr}, s[j]? = some (some (V.ref c')) → isOwn y = true → c' ≠ b := fun {c'} hc o3 e3 => by
          subst e3
          exact q (a.sl.ne i j c' _ y hs hc e h2 rfl o3)
        cases y with
        | u => trivial
        | d x => obtain ⟨v, e1, r1⟩ := p; exact ⟨v, e1, Rp.mono ⟨[], by simp⟩ hB x r1⟩
        | l ys =>
          obtain ⟨c', ws, rfl, hc, r1, ow1⟩ := p
          exact ⟨c', ws, rfl, hc, r1.mono ⟨[], by simp⟩ (xs := ys) hB, ow1.1, by rw [upd_ne (ne h1 rfl)]; exact ow1.2.1, ow1.2.2⟩
        | m ks ys =>
          obtain ⟨c', ws, rfl, hc, hl, r1, ow1⟩ := p
          exact ⟨c', ws, rfl, hc, hl, r1.mono ⟨[], by simp⟩ (xs := ys) hB, ow1.1, by rw [upd_ne (ne h1 rfl)]; exact ow1.2.1, ow1.2.2⟩
        | f => obtain ⟨a', I1, B1, H1, e1, e2, e3, e4⟩ := p; exact ⟨a', I1, B1, H1, e1, e2, e3.lay (e4 _ ow.1) ow.2.1, e4⟩
        | x e =>
          obtain ⟨a', d', h1, h2, h3⟩ := p
          exact ⟨a', d', h1, h2, h3.mono ⟨[], by simp⟩ hB⟩
    · have q : ∀ {k : Nat} {w : SV}, (z.set i (.d (.lst xs)))[k]? = some w → isOwn w = true → k ≠ i := fun {k w} e o q => by
        subst q
        rw [List.getElem?_set_self'] at e
        cases t : z[k]? with
        | none => rw [t] at e; cases e
        | some _ => rw [t] at e; cases e; cases o
      have n1 := q h3 o1
      have n2 := q h4 o2
      rw [List.getElem?_set_ne (Ne.symm n1)] at h3
      rw [List.getElem?_set_ne (Ne.symm n2)] at h4
      exact a.sl.ne j k c' y w h1 h2 h3 h4 o1 o2
    · have : c ≠ b := fun q => ow.2.2 (q ▸ hc)
      rw [upd_ne this]; exact so.dj c hc
    · by_cases q : c = b
      · subst q; rw [upd_same] at h; cases h; exact hb
      · rw [upd_ne q] at h; exact so.sub c u h
    · by_cases q : c = b
      · subst q; rw [upd_same] at h; cases h; exact fun ps z => by cases z
      · rw [upd_ne q] at h; exact so.nt c u h
    · obtain ⟨c, u, h1, h2, h3⟩ := so.at_ j m h
      exact ⟨c, u, h1, h2, h3.mono ⟨[], by simp⟩ hB⟩
  · exact f.elim

/-! ### targets -/
variable (T) in
def rdG (H0 : Hp) (g : Tg) : TG := fun v s H Q => ∃ I B z S d, At T H0 I B H s z S ∧ Rp I B v d ∧ match g d z with
  | some z' => ∀ s', At T H0 I B H s' z' S → Q s' H
  | none => False
variable (T) in
def rdGs (H0 : Hp) (g : Tgs) : TGs := fun vs s H Q => ∃ I B z S ds, At T H0 I B H s z S ∧ Rps I B vs ds ∧ match g ds z with
  | some z' => ∀ s', At T H0 I B H s' z' S → Q s' H
  | none => False
theorem pg_imp {tg : Expr} {t t' : TG} (h : PG X tg t) (k : ∀ v s H Q, t' v s H Q → t v s H Q) : PG X tg t' := ⟨fun pins s σ H v u Q I r hq => h.run pins s σ H v u Q I r (k _ _ _ _ hq)⟩
theorem pgs_imp {tg : List Expr} {t t' : TGs} (h : PGs X tg t) (k : ∀ v s H Q, t' v s H Q → t v s H Q) : PGs X tg t' := ⟨fun pins s σ H v u Q I r hq => h.run pins s σ H v u Q I r (k _ _ _ _ hq)⟩
theorem g_name {i : Nat} {x : Str} (hN : X.N.Nodup) (hi : X.N[i]? = some x) (hx : Loc X.env.scope x) (hf : X.fn x = true ∨ X.env.scope.names.lookup x = some .local := by first | exact .inl rfl | exact .inr rfl | assumption) : PG X (.Name x pos) (rdG T H0 (gN i)) := by
  refine pg_imp (pg_name hN hi hx hf) ?_
  rintro v s H Q ⟨I, B, z, S, d, a, r, f⟩
  exact f _ (a.setD i r)
theorem g_nil : PGs X [] (rdGs T H0 gNil) := by
  refine pgs_imp pgs_nil ?_
  rintro vs s H Q ⟨I, B, z, S, ds, a, r, f⟩
  unfold gNil at f
  match ds, vs, r with
  | [], [], _ => exact ⟨rfl, f s a⟩
theorem g_cons {tg : Expr} {tgs : List Expr} {g : Tg} {gs : Tgs} (h1 : PG X tg (rdG T H0 g)) (h2 : PGs X tgs (rdGs T H0 gs))
    (hs : (assignEach (tg :: tgs) X.env).map (·.2) = assign tg X.env :: (assignEach tgs X.env).map (·.2) := by rfl) : PGs X (tg :: tgs) (rdGs T H0 (gCons g gs)) := by
  refine pgs_imp (pgs_cons h1 h2 hs) ?_
  rintro vs s H Q ⟨I, B, z, S, ds, a, r, f⟩
  match ds, vs, r with
  | d :: ds, v :: vs, r =>
    refine ⟨v, vs, rfl, I, B, z, S, d, a, r.1, ?_⟩
    unfold gCons at f
    dsimp only at f
    cases q : g d z with
    | none => rw [q] at f; exact f
    | some z1 =>
      rw [q] at f
      dsimp only
      intro s' a'
      exact ⟨I, B, z1, S, ds, a', r.2, f⟩
  | [], _, _ => exact f.elim
theorem g_tup {es : List Expr} {k : Nat} {gs : Tgs} {n : Nat} (hc : X.calm = true) (h : PGs X es (rdGs T H0 gs)) (hn : (assignEach es X.env).length = n := by rfl) (hst : (assignEach es X.env).findIdx? (·.1) = none := by rfl) : PG X (.Tuple es k pos) (rdG T H0 (CL.gTup n gs)) := by
  refine pg_imp (pg_tup hc h hn hst) ?_
  rintro v s H Q ⟨I, B, z, S, d, a, r, f⟩
  unfold CL.gTup at f
  cases d with
  | tup xs =>
    obtain ⟨b, vs, rfl, hb, _, rv⟩ := Rp.tup a.st r
    dsimp only at f
    by_cases hl : xs.length = n
    · rw [if_pos hl] at f
      exact ⟨b, vs, rfl, SqT.of hb, by rw [rv.len]; exact hl, I, B, z, S, xs, a, rv, f⟩
    · rw [if_neg hl] at f; exact f.elim
  | _ => exact f.elim
theorem s_asg {tg : Expr} {g : Tg} (he : PE X e (rdE T W ce)) (hg : PG X tg (rdG T H0 g)) (hs : swapsWithSole [tg] e pos.line X.env = pure false := by rfl) (hw : swappedStores [tg] e X.env = pure none := by rfl)
    (h1 : (assignEach [tg] X.env).map (·.2) = [assign tg X.env] := by rfl) : PS X (.Assign [tg] e pos) (rdS T I0 B0 H0 W (sAsg ce g)) := by
  refine ps_imp (ps_asg he hg hs hw h1) ?_
  rintro D s H ⟨I, B, z, S, g', a, f⟩
  refine sdo (rep := Rp) g' a f fun J B' H' S' v x g0 g1 a1 r1 f1 => ?_
  refine ⟨J, B', z, S', x, a1, r1, ?_⟩
  cases q : g x z with
  | none => rw [q] at f1; exact f1
  | some z1 =>
    rw [q] at f1
    exact fun s' a' => f1 J B' H' s' g0 GB.rfl a'
theorem s_par {i j : Nat} {x y : Str} {a b : Expr} {ca : CA} {px py pt : Pos} {kt k2 pt2} (hc : X.calm = true) (hN : X.N.Nodup) (hi : X.N[i]? = some x) (hj : X.N[j]? = some y) (hij : i ≠ j)
    (hx : X.env.scope.names.lookup x = some .local) (hy : X.env.scope.names.lookup y = some .local) (ha : PA X [a, b] (rdA T W ca))
    (hw : swappedStores [.Tuple [.Name x px, .Name y py] kt pt] (.Tuple [a, b] k2 pt2) X.env = pure (some [x, y]))
    (hs : swapsWithSole [.Tuple [.Name x px, .Name y py] kt pt] (.Tuple [a, b] k2 pt2) pos.line X.env = pure false := by rfl) :
    PS X (.Assign [.Tuple [.Name x px, .Name y py] kt pt] (.Tuple [a, b] k2 pt2) pos) (rdS T I0 B0 H0 W (sPar i j ca)) := by
  refine ps_imp (ps_par hc hN hi hj hij hx hy ha hw hs) ?_
  rintro D s H ⟨I, B, z, S, g', a, f⟩
  refine sdo (rep := Rps) g' a f fun J B' H' S' vs xs g0 g1 a1 r1 f1 => ?_
  match xs, f1 with
  | [x, y], f1 =>
    obtain ⟨v, u, rfl, rv, ru⟩ := r1.two
    exact ⟨v, u, rfl, f1 J B' H' _ g0 GB.rfl ((a1.setD i rv).setD j ru)⟩
  | [], f1 => exact f1.elim
  | [_], f1 => exact f1.elim
  | _ :: _ :: _ :: _, f1 => exact f1.elim
end
end CL
set_option Elab.async false
set_option linter.all false
set_option maxRecDepth 100000
/-! CL8: defs by their bodies, calls, attributes, methods, properties, new objects. -/
namespace CL
open PySem PySem.Spec PyProof.Rows L2
variable [TheK]
variable {L : Tl} {T : Pm} {X : Cx} {W : WX}

abbrev kW (E : XK) : WX := fun c d _ H => E c d H
/-- the promise «it does what g tells» -/
def spG (L : Tl) (n : Nat) (g : G) : Sp := fun vs H Q E => ∃ I B S ds, vs.length = n ∧ Rps I B vs ds ∧ Sto L I B H S ∧ Fin L Rp (kW E) [] I B H Q (g ds S)
abbrev FnC (P : Program) (w : World) (K : PySem.W.Frag) (mg : Str → Option Value) (base : Heap) (L : Tl) (k : Nat) (f : Addr) (fd : FuncData) (ps : List Str) (g : G) : Prop := FnOk P w K mg base (L2.CX P w) k f fd ps (spG L ps.length g)

theorem start_at {I : List Addr} {B H : Hp} {S : Store} {vs : List V} {ds : List D} (N : List Str) (st : Sto L I B H S) (r : Rps I B vs ds) : At ⟨L, none, none⟩ H I B H (L2.start N vs) (ds.map SV.d ++ List.replicate (N.length - ds.length) SV.u) S := by
  have hl := r.len
  refine ⟨⟨by unfold L2.start; simp [hl], fun i o x h1 h2 => ?_, fun i j a x y h1 h2 h3 h4 o1 o2 => ?_⟩, st⟩
  · unfold L2.start at h1
    by_cases hi : i < ds.length
    · rw [List.getElem?_append_left (by simpa using hi), List.getElem?_map] at h2
      cases q : ds[i]? with
      | none => rw [q] at h2; cases h2
      | some d =>
        rw [q] at h2; cases h2
        obtain ⟨v, e1, e2⟩ := r.get q
        rw [List.getElem?_append_left (by simpa [hl] using hi), List.getElem?_map, e1] at h1
        cases h1
        exact ⟨v, rfl, e2⟩
    · rw [List.getElem?_append_right (by simpa using hi), List.getElem?_replicate] at h2
      split at h2
      · cases h2; trivial
      · cases h2
  · have no : ∀ {k : Nat} {w : SV}, (ds.map SV.d ++ List.replicate (N.length - ds.length) SV.u)[k]? = some w → isOwn w = true → False := fun {k w} e o => by
      by_cases hi : k < ds.length
      · rw [List.getElem?_append_left (by simpa using hi), List.getElem?_map] at e
        cases q : ds[k]? with
        | none => rw [q] at e; cases e
        | some d => rw [q] at e; cases e; cases o
      · rw [List.getElem?_append_right (by simpa using hi), List.getElem?_replicate] at e
        split at e
        · cases e; cases o
        · cases e
    exact (no h3 o1).elim
section
variable {P : Program} {w : World} {K : PySem.W.Frag} {mg : Str → Option Value} {base : Heap} {x qual : Str} {st : Stmt} {f : Addr} {fd : FuncData} {N ps : List Str} {k : Nat} {c : CS}
/-- THE RULE: a def does what its body's piece does -/
theorem fn_c (F : Fun K x qual st f fd) (S : FnScope N ps (defScope st))
    (hb : ∀ (cdv : Value) (A : Around) (outer : List Env) (s : Shared) (H : Hp) (E : XK) (I0 : List Addr) (B0 : Hp), Room k (A.deeper (envOfC qual (defScope st) s.heap.objs.size f cdv)) →
      PSs (cxOf (L2.CX P w) P w K mg base N qual (defScope st) f cdv A outer s H E) (defBody st) (rdS ⟨L, none, none⟩ I0 B0 H (kW E) c)) :
    FnC P w K mg base L (k + 1) f fd ps (run N.length c) := by
  refine F.okX S (fun vs H Q E h => ?_) (fun cdv A outer s H vs Q E hr h => ?_)
  · obtain ⟨I, B, S, ds, hl, _⟩ := h
    exact hl
  · obtain ⟨I, B, S, ds, hl, r, st', f⟩ := h
    refine ⟨_, hb cdv A outer s H E I B hr, I, B, _, S, Gr.refl I B H, start_at N st' r, ?_⟩
    unfold run at f
    cases q : c (ds.map SV.d ++ List.replicate (N.length - ds.length) SV.u) S with
    | nx z' S' => rw [q] at f; exact fun J B' H' s' g gb a => f J B' H' .non g a.st rfl
    | rt d S' => rw [q] at f; exact fun J B' H' v g gb st r => f J B' H' v g st r
    | exc x z' S' => rw [q] at f; exact fun J B' H' s' cc dd g gb a r => f J B' H' cc dd g a.st r
    | bk z' S' => rw [q] at f; exact f.elim
    | ct z' S' => rw [q] at f; exact f.elim
    | bad => rw [q] at f; exact f.elim
/-- a weaker promise: where g' tells something, g tells the same -/
theorem FnC.imp {g g' : G} (F : FnC P w K mg base L k f fd ps g) (h : ∀ ds S, g' ds S = g ds S ∨ g' ds S = .bad) : FnC P w K mg base L k f fd ps g' :=
  FnOk.imp F fun vs H Q E ⟨I, B, S, ds, hl, r, st, f⟩ => ⟨I, B, S, ds, hl, r, st, by
    rcases h ds S with e | e
    · rw [← e]; exact f
    · rw [e] at f; exact f.elim⟩
end
/-- what the caller wishes -/
theorem call_sp {E : XK} {I : List Addr} {B H H0 : Hp} {S : Store} {vs : List V} {ds : List D} {s : L2.St} {z : Sl} {Q : VK} {n : Nat} {g : G} (hl : vs.length = n) (a : At T H0 I B H s z S) (r : Rps I B vs ds) (f : Fin T.tabs Rp W s I B H Q (g ds S)) (hW : ∀ c d H, W c d s H → E c d H) :
    spG T.tabs n g vs H Q E := by
  refine ⟨I, B, S, ds, hl, r, a.st, ?_⟩
  cases q : g ds S with
  | ok d S' => rw [q] at f; exact f
  | exc x S' => rw [q] at f; exact fun J B' H' c dd g st rx => hW _ _ _ (f J B' H' c dd g st rx)
  | bad => rw [q] at f; exact f
section
variable {k : Nat} {f C : Addr} {fd : FuncData} {ps : List Str} {g : G} {x m : Str} {p pos apos : Pos} {e o : Expr} {es : List Expr} {co : CE} {ca : CA} {E : XK}
def AN (ca : CA) (n : Nat) : Prop := ∀ z S xs S', ca z S = .ok xs S' → xs.length = n
theorem an0 : AN aNil 0 := fun z S xs S' h => by unfold aNil at h; cases h; rfl
theorem an1 {c : CE} {r : CA} {n : Nat} (h : AN r n) : AN (aCons c r) (n + 1) := fun z S xs S' e => by
  unfold aCons at e
  cases q : c z S with
  | ok x S1 =>
    rw [q] at e
    simp only [R.bind] at e
    cases q2 : r z S1 with
    | ok ys S2 =>
      rw [q2] at e
      cases e
      simp [h _ _ _ _ q2]
    | exc _ _ => rw [q2] at e; cases e
    | bad => rw [q2] at e; cases e
  | exc _ _ => rw [q] at e; cases e
  | bad => rw [q] at e; cases e
/-- f(e, ..) -/
theorem e_call (F : FnC X.prog X.w X.K X.mg X.base T.tabs k f fd ps g) (hr : Room k X.A) (hg : Gl X x) (hm : X.mg x = some (.ref f)) (hk : PySem.W.keepIn X.K (.ref f) = true) (hb : Binds X.K fd ps []) (tk : Takes X W)
    (ha : PA X (e :: es) (rdA T W ca)) (hn : AN ca ps.length) (hdb : (x == ("__debug__" : Str)) = false := by decide) (he : starEach (e :: es) X.env = (false, eval e X.env) :: starEach es X.env := by rfl)
    (hpl : (backTo pos (starEach es X.env)).any (·.1) = false := by rfl) : PE X (.Call (.Name x p) (e :: es) [] pos) (rdE T W (cCall g ca)) := by
  refine pe_imp (pe_callS (E := WE W) F hr hg hm hk hb (fun σ => passAt tk σ) ha hdb he hpl) ?_
  rintro s H Q ⟨H0, I, B, z, S, a, h⟩
  have hn' := hn z S
  unfold cCall cApp at h
  cases q : ca z S with
  | ok xs S' =>
    refine ⟨H0, I, B, z, S, a, ?_⟩
    rw [q] at h ⊢
    exact fun J B' H' v g' st r => call_sp (by rw [r.len]; exact hn' xs S' q) (a.gr g' st) r (h.gr g') fun _ _ _ h => h
  | exc x S' =>
    refine ⟨H0, I, B, z, S, a, ?_⟩
    rw [q] at h ⊢
    exact h
  | bad => rw [q] at h; exact h.elim
/-- f() -/
theorem e_call0 {P : XK} (F : FnC X.prog X.w X.K X.mg X.base T.tabs k f fd ps g) (hr : Room k X.A) (hg : Gl X x) (hm : X.mg x = some (.ref f)) (hk : PySem.W.keepIn X.K (.ref f) = true) (hb : Binds X.K fd ps []) (hx : Passes (L2.CX X.prog X.w) X E)
    (hn : ps.length = 0) (hdb : (x == ("__debug__" : Str)) = false := by decide) : PE X (.Call (.Name x p) [] [] pos) (rdE T (kW E) (cCall g aNil)) := by
  refine pe_imp (pe_call0 F hr hg hm hk hb .nil hx hdb) ?_
  rintro s H Q ⟨H0, I, B, z, S, a, h⟩
  exact call_sp (W := kW E) (s := s) (vs := []) (ds := []) hn.symm a trivial h fun _ _ _ h => h

/-! ### attributes -/
/-- an instance, tracked -/
theorem insOf {I : List Addr} {B H : Hp} {S : Store} {v : V} {d : D} {C' : Addr} {ns : List Str} (st : Sto L I B H S) (r : Rp I B v d) (e : classOf S d = some (C', ns)) :
    ∃ a dx vs xs, v = .ref a ∧ H a = some (.ins C' dx (ns.zip vs)) ∧ ns.length = vs.length ∧ Rps I B vs xs ∧ ∀ fl, fieldOf S d fl = (ns.zip xs).lookup fl := by
  unfold classOf at e
  split at e
  · cases e
    obtain ⟨a, dx, vs, rfl, h, hl, rv⟩ := r
    exact ⟨a, dx, vs, _, rfl, st.sub _ _ h, hl, rv, fun fl => rfl⟩
  · split at e
    · rename_i q
      cases e
      obtain ⟨a, o, rfl, _, h, dx, vs, rfl, hl, rv⟩ := Rp.ptr st r q
      exact ⟨a, dx, vs, _, rfl, h, hl, rv, fun fl => by unfold fieldOf; simp only [q]⟩
    · cases e
  · cases e
theorem lookup_rps {I : List Addr} {B : Hp} {fl : Str} : ∀ {ns : List Str} {vs : List V} {xs : List D} {d : D}, ns.length = vs.length → Rps I B vs xs → (ns.zip xs).lookup fl = some d → ∃ v, (ns.zip vs).lookup fl = some v ∧ Rp I B v d
  | [], vs, xs, d, hl, r, e => by cases e
  | n :: ns, [], xs, d, hl, r, e => by cases hl
  | n :: ns, v :: vs, [], d, hl, r, e => by cases e
  | n :: ns, v :: vs, x :: xs, d, hl, r, e => by
    by_cases q : fl = n
    · subst q
      simp [List.lookup] at e
      subst e
      exact ⟨v, by simp [List.lookup], r.1⟩
    · have q' : (fl == n) = false := by simpa using q
      have e' : List.lookup fl (ns.zip xs) = some d := by simpa [List.lookup, q'] using e
      obtain ⟨u, h1, h2⟩ := lookup_rps (by simpa using hl) r.2 e'
      exact ⟨u, by simpa [List.lookup, q'] using h1, h2⟩
theorem lookup_not {α : Type} {fl : Str} : ∀ {ns : List Str} {vs : List α}, fl ∉ ns → (ns.zip vs).lookup fl = none
  | [], vs, h => rfl
  | n :: ns, [], h => rfl
  | n :: ns, v :: vs, h => by
    have q : (fl == n) = false := by
      simp at h
      simpa using h.1
    have : fl ∉ ns := fun e => h (List.mem_cons_of_mem _ e)
    simp only [List.zip_cons_cons, List.lookup, q]
    exact lookup_not this
/-- e.f, an attribute of an instance of the class at C -/
theorem e_fld (fl : Str) (he : PE X o (rdE T W co)) (c : Cls X.K C) (n : NoAttr X.K C fl) (hb : attributeBase o fl X.env (eval o X.env) = eval o X.env := by rfl) : PE X (.Attribute o fl pos) (rdE T W (cFld C fl co)) := by
  refine pe_imp (pe_fld he hb) ?_
  rintro s H Q ⟨H0, I, B, z, S, a, h⟩
  refine bind (rep := Rp) (rep2 := Rp) (Q := Q) a h fun J B' H' S' v d g a1 r1 f1 => ?_
  cases q1 : classOf S' d with
  | none => rw [q1] at f1; exact f1.elim
  | some p =>
    obtain ⟨C', ns⟩ := p
    cases q2 : fieldOf S' d fl with
    | none => rw [q1, q2] at f1; exact f1.elim
    | some y =>
      rw [q1, q2] at f1
      dsimp only at f1
      by_cases hC : C' = C
      · subst hC
        rw [if_pos rfl] at f1
        obtain ⟨b, dx, vs, xs, rfl, hb, hl, rv, hf⟩ := insOf a1.st r1 q1
        rw [hf] at q2
        obtain ⟨u, h1, h2⟩ := lookup_rps hl rv q2
        exact ⟨b, C', dx, _, u, rfl, hb, c, n, h1, f1.here a1.st h2⟩
      · rw [if_neg hC] at f1; exact f1.elim
/-- o.m(e, ..) -/
theorem e_meth {pl : Sem Bool} (he : PE X o (rdE T (kW E) co)) (c : Cls X.K C) (hm : Meth X.K C m f) (F : FnC X.prog X.w X.K X.mg X.base T.tabs k f fd ps g) (hr : Room k X.A) (hb : Binds X.K fd ps []) (hx : Passes (L2.CX X.prog X.w) X E) (ha : PA X (e :: es) (rdA T (kW E) ca)) {n : Nat} (hn : AN ca n) (hp : ps.length = n + 1)
    (hst : starEach (e :: es) X.env = (false, eval e X.env) :: starEach es X.env := by rfl) (hpl : (backTo pos (starEach es X.env)).any (·.1) = false := by rfl)
    (ht : eval (.Call (.Attribute o m apos) (e :: es) [] pos) X.env = (do
      let ov ← eval o X.env
      standAt apos.atName
      let (f, first) ← holding [ov] (getMethod ov m pl)
      callWith pos f first (backTo pos (starEach (e :: es) X.env)) (backToKw pos (keywordEach [] X.env))) := by rfl) :
    PE X (.Call (.Attribute o m apos) (e :: es) [] pos) (rdE T (kW E) (cMeth C m g co ca)) := by
  refine pe_imp (pe_meth (pl := pl) he c hm F hr hb .nil hx ha hst hpl ht) ?_
  rintro s H Q ⟨H0, I, B, z, S, a, h⟩
  refine bind (rep := Rp) (rep2 := Rp) (Q := Q) a h fun J B' H' S' v d g1 a1 r1 f1 => ?_
  cases q1 : classOf S' d with
  | none => rw [q1] at f1; exact f1.elim
  | some pq =>
    obtain ⟨C', ns⟩ := pq
    rw [q1] at f1
    dsimp only at f1
    by_cases hC : C' = C ∧ m ∉ ns
    · rw [if_pos hC] at f1
      obtain ⟨rfl, hC2⟩ := hC
      obtain ⟨b, dx, vs, xs, rfl, hb, hl, rv, hf⟩ := insOf a1.st r1 q1
      refine ⟨b, dx, _, rfl, hb, lookup_not hC2, ?_⟩
      have hn' := hn z S'
      cases q : ca z S' with
      | ok ys S2 =>
        refine ⟨H0, J, B', z, S', a1, ?_⟩
        rw [q] at f1 ⊢
        exact fun J2 B2 H2 us g2 st r => by
          show spG T.tabs ps.length g (V.ref b :: (us ++ [])) H2 Q E
          rw [List.append_nil]
          exact call_sp (W := kW E) (s := s) (ds := d :: ys) (by simp [r.len, hn' ys S2 q, hp]) (a1.gr g2 st) ⟨r1.gr g2, r⟩ (f1.gr g2) fun _ _ _ h => h
      | exc x S2 =>
        refine ⟨H0, J, B', z, S', a1, ?_⟩
        rw [q] at f1 ⊢
        exact f1
      | bad => rw [q] at f1; exact f1.elim
    · rw [if_neg hC] at f1; exact f1.elim
/-- o.m() -/
theorem e_meth0 {pl : Sem Bool} (he : PE X o (rdE T (kW E) co)) (c : Cls X.K C) (hm : Meth X.K C m f) (F : FnC X.prog X.w X.K X.mg X.base T.tabs k f fd ps g) (hr : Room k X.A) (hb : Binds X.K fd ps []) (hx : Passes (L2.CX X.prog X.w) X E) (hp : ps.length = 1)
    (ht : eval (.Call (.Attribute o m apos) [] [] pos) X.env = (do
      let ov ← eval o X.env
      standAt apos.atName
      let (f, first) ← holding [ov] (getMethod ov m pl)
      callWith pos f first (backTo pos (starEach [] X.env)) (backToKw pos (keywordEach [] X.env))) := by rfl) :
    PE X (.Call (.Attribute o m apos) [] [] pos) (rdE T (kW E) (cMeth C m g co aNil)) := by
  refine pe_imp (pe_meth0 (pl := pl) he c hm F hr hb .nil hx ht) ?_
  rintro s H Q ⟨H0, I, B, z, S, a, h⟩
  refine bind (rep := Rp) (rep2 := Rp) (Q := Q) a h fun J B' H' S' v d g1 a1 r1 f1 => ?_
  cases q1 : classOf S' d with
  | none => rw [q1] at f1; exact f1.elim
  | some pq =>
    obtain ⟨C', ns⟩ := pq
    rw [q1] at f1
    dsimp only at f1
    by_cases hC : C' = C ∧ m ∉ ns
    · rw [if_pos hC] at f1
      obtain ⟨rfl, hC2⟩ := hC
      obtain ⟨b, dx, vs, xs, rfl, hb, hl, rv, hf⟩ := insOf a1.st r1 q1
      exact ⟨b, dx, _, rfl, hb, lookup_not hC2, call_sp (W := kW E) (s := s) (vs := [.ref b]) (ds := [d]) hp.symm a1 ⟨r1, trivial⟩ f1 fun _ _ _ h => h⟩
    · rw [if_neg hC] at f1; exact f1.elim
/-- o.p, p a property whose getter lets no exception out -/
def gNox (g : G) : G := fun ds S => match g ds S with
  | .ok d S' => .ok d S'
  | _ => .bad
theorem e_prop {pa : Addr} {fl : Str} (he : PE X o (rdE T (kW E) co)) (c : Cls X.K C) (hp : PropOf X.K C fl pa f) (F : FnC X.prog X.w X.K X.mg X.base T.tabs k f fd ps g) (hr : Room (k + 1) X.A) (hb : Binds X.K fd ps []) (hps : ps.length = 1)
    (hab : attributeBase o fl X.env (eval o X.env) = eval o X.env := by rfl) : PE X (.Attribute o fl pos) (rdE T (kW E) (cProp C (gNox g) co)) := by
  refine pe_imp (pe_prop he c hp F hr hb .nil (passL (X := X.nox)) hab) ?_
  rintro s H Q ⟨H0, I, B, z, S, a, h⟩
  refine bind (rep := Rp) (rep2 := Rp) (Q := Q) a h fun J B' H' S' v d g1 a1 r1 f1 => ?_
  cases q1 : classOf S' d with
  | none => rw [q1] at f1; exact f1.elim
  | some pq =>
    obtain ⟨C', ns⟩ := pq
    rw [q1] at f1
    dsimp only at f1
    by_cases hC : C' = C
    · rw [if_pos hC] at f1
      subst hC
      obtain ⟨b, dx, vs, xs, rfl, hb, hl, rv, hf⟩ := insOf a1.st r1 q1
      refine ⟨b, dx, _, rfl, hb, ?_⟩
      refine call_sp (W := fun _ _ _ _ => False) (s := s) (vs := [.ref b]) (ds := [d]) hps.symm a1 ⟨r1, trivial⟩ ?_ fun _ _ _ h => h
      unfold gNox at f1
      cases q : g [d] S' with
      | ok y S2 => rw [q] at f1; exact f1
      | exc y S2 => rw [q] at f1; exact f1.elim
      | bad => rw [q] at f1; exact f1.elim
    · rw [if_neg hC] at f1; exact f1.elim
end
end CL
set_option Elab.async false
set_option linter.all false
set_option maxRecDepth 100000
/-! CL9: classes read; own lists; the store. -/
namespace CL
open PySem PySem.Spec PyProof.Rows L2
variable [TheK]
variable {L : Tl} {T : Pm} {X : Cx} {W : WX}
section
variable {k : Nat} {f C p : Addr} {mc : Value} {fd : FuncData} {ps : List Str} {g : G} {x m : Str} {pos apos : Pos} {e o : Expr} {es : List Expr} {co : CE} {ca : CA} {E : XK}
theorem e_cval {fl : Str} {d : D} {v : V} {u : Value} (he : PE X o (rdE T W co)) (r : ClX.CRead X.K C mc) (c : ClX.CVal X.K C mc fl v u) (rv : ∀ I B, Rp I B v d) (hb : attributeBase o fl X.env (eval o X.env) = eval o X.env := by rfl) :
    PE X (.Attribute o fl pos) (rdE T W (cVal C d co)) := by
  refine pe_imp (ClX.pe_cval he hb) ?_
  rintro s H Q ⟨H0, I, B, z, S, a, h⟩
  refine bind (rep := Rp) (rep2 := Rp) (Q := Q) a h fun J B' H' S' w y g a1 r1 f1 => ?_
  cases y with
  | ref b =>
    dsimp only at f1
    by_cases hC : b = C
    · rw [if_pos hC] at f1
      subst hC
      exact ⟨_, mc, v, u, r1, r, c, f1.here a1.st (rv _ _)⟩
    · rw [if_neg hC] at f1; exact f1.elim
  | _ => exact f1.elim
/-- C.m is a static method: its record at p, its def at f -/
structure SMet (K : PySem.W.Frag) (C : Addr) (mc : Value) (m : Str) (p f : Addr) : Prop where
  at_ : PySem.W.findCls K (.ref C) mc m = some (.get (.builtin "staticmethod.__get__") (.ref p) .none (.ref C))
  rc : ∃ rest, PySem.W.recIn K p "staticmethod" = some (.ref f :: rest)
  kp : PySem.W.keepIn K (.ref f) = true
theorem e_stat {pl : Sem Bool} (he : PE X o (rdE T W co)) (r : ClX.CRead X.K C mc) (c : SMet X.K C mc m p f) (F : FnC X.prog X.w X.K X.mg X.base T.tabs k f fd ps g) (hr : Room k X.A) (hb : Binds X.K fd ps []) (tk : Takes X W) (ha : PA X (e :: es) (rdA T W ca)) (hn : AN ca ps.length)
    (hst : starEach (e :: es) X.env = (false, eval e X.env) :: starEach es X.env := by rfl) (hpl : (backTo pos (starEach es X.env)).any (·.1) = false := by rfl)
    (ht : eval (.Call (.Attribute o m apos) (e :: es) [] pos) X.env = (do
      let ov ← eval o X.env
      standAt apos.atName
      let (f, first) ← holding [ov] (getMethod ov m pl)
      callWith pos f first (backTo pos (starEach (e :: es) X.env)) (backToKw pos (keywordEach [] X.env))) := by rfl) :
    PE X (.Call (.Attribute o m apos) (e :: es) [] pos) (rdE T W (cStat C g co ca)) := by
  refine ⟨fun pins s σ H Q I ⟨H0, I0, B, z, S, a, h⟩ => ?_⟩
  refine PySem.W.methodCall_KW (pl := pl) (thn (he.run pins s σ H (fun v H' => v = .ref C ∧ rd T Rps W ca σ H' fun vs H1 => spG T.tabs ps.length g vs H1 Q (WE W σ)) I ?_) fun u s1 ⟨v, H1, I1, r1, e1, q1⟩ => ?_) ht
  · refine bind (rep := Rp) (rep2 := Rp) (Q := Q) a h fun J B' H' S' w y g' a1 r1 f1 => ?_
    cases y with
    | ref b =>
      dsimp only at f1
      by_cases hC : b = C
      · rw [if_pos hC] at f1
        subst hC
        refine ⟨r1, ?_⟩
        have hn' := hn z S'
        cases q : ca z S' with
        | ok xs S2 =>
          refine ⟨H0, J, B', z, S', a1, ?_⟩
          rw [q] at f1 ⊢
          exact fun J2 B2 H2 vs g2 st2 r2 => call_sp (by rw [r2.len]; exact hn' xs S2 q) (a1.gr g2 st2) r2 (f1.gr g2) fun _ _ _ h => h
        | exc x S2 =>
          refine ⟨H0, J, B', z, S', a1, ?_⟩
          rw [q] at f1 ⊢
          exact f1
        | bad => rw [q] at f1; exact f1.elim
      · rw [if_neg hC] at f1; exact f1.elim
    | _ => exact f1.elim
  · subst e1
    obtain rfl : u = Value.ref C := r1
    obtain ⟨rest, hrec⟩ := c.rc
    refine PySem.W.method_cls I1.kIn r.ga (PySem.W.cls_bind I1.kIn r.rd c.at_ (wpAny_call (PySem.W.sm_get (s := { s1 with toks := s1.toks + 1 }) I1.kIn hrec (PySem.W.handed_on rfl ?_))))
    have I2 := I1.tok (s1.toks + 1)
    refine PySem.W.callWith_K (h₀ := X.base) (first := []) I2.ok.mod.kin c.kp (thn (ha.run pos pins _ σ H1 _ I2 q1) fun us s2 ⟨vs, H2, I3, rv, q2⟩ => ⟨I3.kIn, ?_⟩) hst hpl
    exact run_fnS F hr hb (passAt tk σ) I3 rv q2
end

/-! ### fresh lists -/
/-- what a list that has just been made gives: nobody else knows it -/
def rdF (T : Pm) (W : WX) (c : CE) : TE := fun s H Q => ∃ H0 I B z S, At T H0 I B H s z S ∧ match c z S with
  | .ok (.lst xs) S' => ∀ J B' H' p vs, Gr I B H J B' H' → Sto T.tabs J B' H' S' → H' p = none → Rps J B' vs xs → Q (.ref p) (upd H' p (.lst vs))
  | .exc e S' => ∀ J B' H' c dd, Gr I B H J B' H' → Sto T.tabs J B' H' S' → RpX J B' c dd e → W c dd s H'
  | _ => False
theorem bindF {α β : Type} {rep : List Addr → Hp → β → α → Prop} {s : L2.St} {I : List Addr} {B H H0 : Hp} {z : Sl} {S : Store} {ca : C α} {f : α → Store → R D} {P : β → Hp → Prop} {Q : VK} (at_ : At T H0 I B H s z S)
    (h : match (ca z S).bind f with
      | .ok (.lst xs) S' => ∀ J B' H' p vs, Gr I B H J B' H' → Sto T.tabs J B' H' S' → H' p = none → Rps J B' vs xs → Q (.ref p) (upd H' p (.lst vs))
      | .exc e S' => ∀ J B' H' c dd, Gr I B H J B' H' → Sto T.tabs J B' H' S' → RpX J B' c dd e → W c dd s H'
      | _ => False)
    (k : ∀ J B' H' S' v x, Gr I B H J B' H' → At T H0 J B' H' s z S' → rep J B' v x → (match f x S' with
      | .ok (.lst xs) S2 => ∀ J2 B2 H2 p vs, Gr J B' H' J2 B2 H2 → Sto T.tabs J2 B2 H2 S2 → H2 p = none → Rps J2 B2 vs xs → Q (.ref p) (upd H2 p (.lst vs))
      | .exc e S2 => ∀ J2 B2 H2 c dd, Gr J B' H' J2 B2 H2 → Sto T.tabs J2 B2 H2 S2 → RpX J2 B2 c dd e → W c dd s H2
      | _ => False) → P v H') : rd T rep W ca s H P := by
  refine ⟨H0, I, B, z, S, at_, ?_⟩
  cases e : ca z S with
  | ok x S' =>
    rw [e] at h
    intro J B' H' v g st r
    refine k J B' H' S' v x g (at_.gr g st) r ?_
    simp only [R.bind] at h
    revert h
    cases f x S' with
    | ok d S2 =>
      cases d with
      | lst xs => exact fun h J2 B2 H2 p vs g2 => h J2 B2 H2 p vs (g.trans g2)
      | _ => exact fun h => h
    | exc e S2 => exact fun h J2 B2 H2 c dd g2 => h J2 B2 H2 c dd (g.trans g2)
    | bad => exact fun h => h
  | exc x S' => rw [e] at h; exact h
  | bad => rw [e] at h; exact h
section
variable {e : Expr} {es : List Expr} {ca : CA} {pos : Pos}
theorem f_lst (h : PA X es (rdA T W ca)) : PE X (.List es pos) (rdF T W (cLst ca)) := by
  refine pe_imp (pe_lst h) ?_
  rintro s H Q ⟨H0, I, B, z, S, a, h⟩
  refine bindF (rep := Rps) (Q := Q) a h fun J B' H' S' v x g a1 r1 f1 => ?_
  by_cases hl : x.length ≤ 16777216
  · rw [if_pos hl] at f1
    exact ⟨by rw [r1.len]; exact line_le hl, fun p hp => f1 J B' H' p v (Gr.refl _ _ _) a1.st hp r1⟩
  · rw [if_neg hl] at f1; exact f1.elim
theorem f_list {p : Pos} (hg : Gl X "list") (hm : X.mg "list" = none) (ha : PA X (e :: es) (rdA T W ca)) (he : starEach (e :: es) X.env = (false, eval e X.env) :: starEach es X.env := by rfl) (hpl : (backTo pos (starEach es X.env)).any (·.1) = false := by rfl) (hK : X.K = TheK.K := by rfl) :
    PE X (.Call (.Name "list" p) (e :: es) [] pos) (rdF T W (cApp bList ca)) := by
  refine pe_imp (pe_callTy call_list_of hg hm (by decide +kernel) ha (by decide) (by decide) he hpl) ?_
  rintro s H Q ⟨H0, I, B, z, S, a, h⟩
  refine bindF (rep := Rps) (Q := Q) a h fun J B' H' S' v x g a1 r1 f1 => ?_
  unfold bList at f1
  match x, v, r1, f1 with
  | [x], v, r1, f1 =>
    obtain ⟨w, rfl, rv⟩ := r1.one
    cases q : itemsOf S' x with
    | none => simp only [q] at f1
    | some ys =>
      simp only [q] at f1
      obtain ⟨b, ws, rfl, hb, hl, hr⟩ := items_ty hK a1.st rv q
      exact ⟨b, ws, rfl, hb, fun p hp => f1 J B' H' p ws (Gr.refl _ _ _) a1.st hp hr⟩
  | [], _, _, f1 => exact f1.elim
  | _ :: _ :: _, _, _, f1 => exact f1.elim
variable {I0 : List Addr} {B0 H0 : Hp} {ce : CE}
/-- how a statement's wish is one about a fresh list -/
theorem sdoF {s : L2.St} {I : List Addr} {B H : Hp} {z : Sl} {S : Store} {En : Ends} {f : List D → Store → O} {Q : VK} (g0 : Gr I0 B0 H0 I B H) (a : At T H0 I B H s z S)
    (h : FinS T I0 B0 H0 W I B En (oDo (ce z S) z fun d S' => match d with | .lst xs => f xs S' | _ => .bad))
    (k : ∀ J B' H' S' p vs xs, Gr I0 B0 H0 J B' H' → At T H0 J B' H' s z S' → H' p = none → Rps J B' vs xs → FinS T I0 B0 H0 W J B' En (f xs S') → Q (.ref p) (upd H' p (.lst vs))) : rdF T W ce s H Q := by
  refine ⟨H0, I, B, z, S, a, ?_⟩
  cases e : ce z S with
  | ok x S' =>
    rw [e] at h
    cases x with
    | lst xs => exact fun J B' H' p vs g st hp r => k J B' H' S' p vs xs (g0.trans g) (a.gr g st) hp r (h.gb g.gb)
    | _ => exact h.elim
  | exc x S' =>
    rw [e] at h
    exact fun J B' H' c dd g st r => h J B' H' s c dd (g0.trans g) g.gb (a.gr g st) r
  | bad => rw [e] at h; exact h.elim
theorem s_setL {i : Nat} {x : Str} {pos' : Pos} (hN : X.N.Nodup) (hi : X.N[i]? = some x) (hx : Loc X.env.scope x) (he : PE X e (rdF T W ce)) (hs : swapsWith e (some (.Name x pos')) pos.line X.env = pure false := by rfl) (hf : X.fn x = true ∨ X.env.scope.names.lookup x = some .local := by first | exact .inl rfl | exact .inr rfl | assumption) :
    PS X (.Assign [.Name x pos'] e pos) (rdS T I0 B0 H0 W (sSetL i ce)) := by
  refine ps_imp (ps_set hN hi hx he hs hf) ?_
  rintro D s H ⟨I, B, z, S, g, a, f⟩
  refine sdoF g a f fun J B' H' S' p vs xs g0 a1 hp r f1 => ?_
  have h0 := g0.dom p (.of hp)
  have a2 := a1.newOwn (y := .l xs) i h0 hp (o := .lst vs) ⟨p, vs, rfl, upd_same, r, h0, a1.st.noB hp, a1.st.notIn hp⟩
  exact f1 J B' _ _ (gr_own g0 h0) GB.rfl a2
theorem s_setP {i : Nat} {x : Str} {pos' : Pos} (hN : X.N.Nodup) (hi : X.N[i]? = some x) (hx : Loc X.env.scope x) (he : PE X e (rdF T W ce)) (hs : swapsWith e (some (.Name x pos')) pos.line X.env = pure false := by rfl) (hf : X.fn x = true ∨ X.env.scope.names.lookup x = some .local := by first | exact .inl rfl | exact .inr rfl | assumption) :
    PS X (.Assign [.Name x pos'] e pos) (rdS T I0 B0 H0 W (sSetP i ce)) := by
  refine ps_imp (ps_set hN hi hx he hs hf) ?_
  rintro D s H ⟨I, B, z, S, g, a, f⟩
  refine sdoF g a f fun J B' H' S' p vs xs g0 a1 hp r f1 => ?_
  have a2 := a1.grow (u := .lst vs) (m := .lst xs) hp ⟨vs, rfl, r.mono ⟨[p], rfl⟩ (xs := xs) fun _ _ h => h⟩
  have r2 : Rp (J ++ [p]) B' (.ref p) (.ptr S'.length) := ⟨p, by rw [← a1.st.len]; simp, rfl⟩
  exact f1 _ B' _ _ (g0.trans (gr_grow a1.st hp)) (gr_grow (u := .lst vs) a1.st hp).gb (a2.setD i r2)
/-- the own list in slot i, behind a piece -/
theorem ownL {s : L2.St} {I : List Addr} {B H : Hp} {z : Sl} {S : Store} {i : Nat} {xs : List D} (a : At T H0 I B H s z S) (e : z[i]? = some (.l xs)) : ∃ b vs, s[i]? = some (some (V.ref b)) ∧ H b = some (.lst vs) ∧ Rps I B vs xs ∧ Own H0 I B b := by
  obtain ⟨o, h1, b, vs, rfl, h2, h3, h4⟩ := a.sl.get e
  exact ⟨b, vs, h1, h2, h3, h4⟩
theorem listTy {K : PySem.W.Frag} {H : Hp} {b : Addr} {vs : List V} (h : H b = some (.lst vs)) : tyV K "list" (.ref b) H := .inl ⟨rfl, vs, SqL.of h⟩
theorem s_append {i : Nat} {t : Expr} {apos spos : Pos} (ho : PE X t (tVar i)) (ha : PE X e (rdE T W ce))
    (hm : PE X t (tVar i) → PA X [e] (tCons (rdE T W ce) tNil) → PE X (.Call (.Attribute t "append" apos) [e] [] pos) (tBM X.K "list" rAppend (tVar i) (tCons (rdE T W ce) tNil)) := by
      exact fun h1 h2 => pe_bm PySem.F.plainAttrs_list PySem.F.slot_list_append PySem.F.type_list_append mt_append h1 h2)
    (hs : swapsWith (.Call (.Attribute t "append" apos) [e] [] pos) none spos.line X.env = pure false := by rfl)
    (hst : starEach (e :: []) X.env = (false, eval e X.env) :: starEach [] X.env := by rfl) :
    PS X (.Expr (.Call (.Attribute t "append" apos) [e] [] pos) spos) (rdS T I0 B0 H0 W (sAppend i ce)) := by
  refine ps_imp (ps_expr (hm ho (pa_cons ha pa_nil hst)) hs) ?_
  rintro D s H ⟨I, B, z, S, g, a, f⟩
  unfold sAppend at f
  split at f
  · rename_i xs e1
    obtain ⟨b, vs, h1, h2, h3, h4⟩ := ownL a e1
    refine ⟨.ref b, h1, listTy h2, ?_⟩
    refine sdo (rep := Rp) g a f fun J B' H' S' v x g0 g1 a1 r1 f1 => ?_
    obtain ⟨b', vs', h1', h2', h3', h4'⟩ := ownL a1 e1
    rw [h1] at h1'; cases h1'
    by_cases hl : xs.length < 16777216
    · rw [if_pos hl] at f1
      have r2 : Rps J B' (vs' ++ [v]) (xs ++ [x]) := h3'.append ⟨r1, trivial⟩
      have a2 := a1.setOwn (u := .lst (vs' ++ [v])) (y' := .l (xs ++ [x])) i h1 e1 rfl h2' (fun ps z => by cases z) (fun q z => by cases z) h4' ⟨b, _, rfl, upd_same, r2, h4'⟩
      exact ⟨b, vs', v, rfl, rfl, h2', by rw [h3'.len]; exact line_lt hl, f1 J B' _ _ (gr_own g0 h4'.1) GB.rfl a2⟩
    · rw [if_neg hl] at f1; exact f1.elim
  · exact f.elim
end
end CL
set_option Elab.async false
set_option linter.all false
set_option maxRecDepth 100000
/-! CL10: lists and objects of the store changed; loops. -/
namespace CL
open PySem PySem.Spec PyProof.Rows L2
variable [TheK]
variable {L : Tl} {T : Pm} {X : Cx} {W : WX}
section
variable {e : Expr} {es : List Expr} {ca : CA} {pos : Pos} {I0 : List Addr} {B0 H0 : Hp} {ce co ck : CE}
theorem s_extend {i : Nat} {t : Expr} {apos spos : Pos} (ho : PE X t (tVar i)) (ha : PE X e (rdE T W ce))
    (hm : PE X t (tVar i) → PA X [e] (tCons (rdE T W ce) tNil) → PE X (.Call (.Attribute t "extend" apos) [e] [] pos) (tBM X.K "list" rExtend (tVar i) (tCons (rdE T W ce) tNil)) := by
      exact fun h1 h2 => pe_bm PySem.F.plainAttrs_list PySem.F.slot_list_extend PySem.F.type_list_extend mt_extend h1 h2)
    (hs : swapsWith (.Call (.Attribute t "extend" apos) [e] [] pos) none spos.line X.env = pure false := by rfl)
    (hst : starEach (e :: []) X.env = (false, eval e X.env) :: starEach [] X.env := by rfl) :
    PS X (.Expr (.Call (.Attribute t "extend" apos) [e] [] pos) spos) (rdS T I0 B0 H0 W (sExtend i ce)) := by
  refine ps_imp (ps_expr (hm ho (pa_cons ha pa_nil hst)) hs) ?_
  rintro D s H ⟨I, B, z, S, g, a, f⟩
  unfold sExtend at f
  split at f
  · rename_i xs e1
    obtain ⟨b, vs, h1, h2, h3, h4⟩ := ownL a e1
    refine ⟨.ref b, h1, listTy h2, ?_⟩
    refine sdo (rep := Rp) g a f fun J B' H' S' v x g0 g1 a1 r1 f1 => ?_
    obtain ⟨b', vs', h1', h2', h3', h4'⟩ := ownL a1 e1
    rw [h1] at h1'; cases h1'
    cases x with
    | lst ys =>
      dsimp only at f1
      by_cases hl : xs.length + ys.length ≤ 16777216
      · rw [if_pos hl] at f1
        obtain ⟨c, ws, rfl, hc, _, rw'⟩ := Rp.lst a1.st r1
        have r2 : Rps J B' (vs' ++ ws) (xs ++ ys) := h3'.append rw'
        have a2 := a1.setOwn (u := .lst (vs' ++ ws)) (y' := .l (xs ++ ys)) i h1 e1 rfl h2' (fun ps z => by cases z) (fun q z => by cases z) h4' ⟨b, _, rfl, upd_same, r2, h4'⟩
        exact ⟨b, c, vs', ws, rfl, rfl, h2', hc, by rw [h3'.len, rw'.len]; exact line_le hl, f1 J B' _ _ (gr_own g0 h4'.1) GB.rfl a2⟩
      · rw [if_neg hl] at f1; exact f1.elim
    | _ => exact f1.elim
  · exact f.elim
/-- o.append(e), o's list in the store -/
theorem e_appendP {t : Expr} {apos : Pos} (ho : PE X t (rdE T W co)) (ha : PE X e (rdE T W ce))
    (hm : PE X t (rdE T W co) → PA X [e] (tCons (rdE T W ce) tNil) → PE X (.Call (.Attribute t "append" apos) [e] [] pos) (tBM X.K "list" rAppend (rdE T W co) (tCons (rdE T W ce) tNil)) := by
      exact fun h1 h2 => pe_bm PySem.F.plainAttrs_list PySem.F.slot_list_append PySem.F.type_list_append mt_append h1 h2)
    (hst : starEach (e :: []) X.env = (false, eval e X.env) :: starEach [] X.env := by rfl) :
    PE X (.Call (.Attribute t "append" apos) [e] [] pos) (rdE T W (cAppendP co ce)) := by
  refine pe_imp (hm ho (pa_cons ha pa_nil hst)) ?_
  rintro s H Q ⟨H0, I, B, z, S, a, h⟩
  unfold cAppendP at h
  refine bind (rep := Rp) (rep2 := Rp) (Q := Q) a h fun J B' H' S' v x g a1 r1 f1 => ?_
  cases x with
  | ptr j =>
    dsimp only at f1
    cases q : S'[j]? with
    | none => simp only [q] at f1; exact f1.elim
    | some m =>
      cases m with
      | lst ys =>
        simp only [q] at f1
        obtain ⟨b, o, rfl, hI, hb, vs, rfl, rv⟩ := Rp.ptr a1.st r1 q
        refine ⟨listTy hb, ?_⟩
        refine bind (rep := Rp) (rep2 := Rp) (Q := Q) a1 f1 fun J2 B2 H2 S2 u y g2 a2 r2 f2 => ?_
        cases q2 : S2[j]? with
        | none => simp only [q2] at f2; exact f2.elim
        | some m =>
          cases m with
          | lst xs =>
            simp only [q2] at f2
            by_cases hl : xs.length < 16777216
            · rw [if_pos hl] at f2
              obtain ⟨b', o', e', hI', hb', vs', rfl, rv'⟩ := Rp.ptr a2.st (r1.gr g2) q2
              cases e'
              have a3 := a2.write (u := .lst (vs' ++ [u])) (m := .lst (xs ++ [y])) hI' hb' (fun ps z => by cases z) (fun q z => by cases z) ⟨_, rfl, rv'.append ⟨r2, trivial⟩⟩
              exact ⟨b, vs', u, rfl, rfl, hb', by rw [rv'.len]; exact line_lt hl, f2 J2 B2 _ .non (gr_write (List.mem_of_getElem? hI') (fun ps z => by cases z)) a3.st rfl⟩
            · rw [if_neg hl] at f2; exact f2.elim
          | ins _ _ _ => simp only [q2] at f2; exact f2.elim
          | dct _ _ => simp only [q2] at f2; exact f2.elim
      | ins _ _ _ => simp only [q] at f1; exact f1.elim
      | dct _ _ => simp only [q] at f1; exact f1.elim
  | _ => exact f1.elim
/-! ### attributes of objects of the store -/
theorem putF_zip {f : Str} {v : V} : ∀ {ns : List Str} {vs : List V}, ns.length = vs.length → putF f v (ns.zip vs) = (putN f v ns vs).1.zip (putN f v ns vs).2
  | [], [], _ => rfl
  | n :: ns, v' :: vs, h => by
    have ih := putF_zip (f := f) (v := v) (ns := ns) (vs := vs) (by simpa using h)
    simp only [List.zip_cons_cons, putF, putN]
    by_cases e : n = f
    · subst e; simp
    · rw [if_neg e, if_neg e, ih]; rfl
  | [], _ :: _, h => by cases h
  | _ :: _, [], h => by cases h
theorem putN_rps {I : List Addr} {B : Hp} {f : Str} {v : V} {d : D} (r : Rp I B v d) : ∀ {ns : List Str} {vs : List V} {xs : List D}, ns.length = vs.length → Rps I B vs xs →
    (putN f v ns vs).1 = (putN f d ns xs).1 ∧ (putN f v ns vs).1.length = (putN f v ns vs).2.length ∧ Rps I B (putN f v ns vs).2 (putN f d ns xs).2
  | [], [], [], _, _ => ⟨rfl, rfl, r, trivial⟩
  | n :: ns, v' :: vs, x :: xs, h, rs => by
    obtain ⟨h1, h2, h3⟩ := putN_rps (f := f) r (ns := ns) (vs := vs) (xs := xs) (by simpa using h) rs.2
    simp only [putN]
    by_cases e : n = f
    · rw [if_pos e, if_pos e]
      exact ⟨rfl, by simpa using h, r, rs.2⟩
    · rw [if_neg e, if_neg e]
      exact ⟨by simp [h1], by simp [h2], rs.1, h3⟩
  | [], [], _ :: _, _, h => h.elim
  | _ :: _, _ :: _, [], _, h => h.elim
  | [], _ :: _, _, h, _ => by cases h
  | _ :: _, [], _, h, _ => by cases h
theorem s_field {C : Addr} {fl : Str} {o value : Expr} {pos' : Pos} (ha : PE X o (rdE T W co)) (hv : PE X value (rdE T W ce)) (c : Cls X.K C) (n : NoAttr X.K C fl) (hs : swapsWith value (some (.Attribute o fl pos')) pos.line X.env = pure false := by rfl) :
    PS X (.Assign [.Attribute o fl pos'] value pos) (rdS T I0 B0 H0 W (sField C fl co ce)) := by
  refine ps_imp (ps_fld ha hv hs) ?_
  rintro D s H ⟨I, B, z, S, g, a, f⟩
  unfold sField at f
  refine sdo (rep := Rp) g a f fun J B' H' S' v x g0 g1 a1 r1 f1 => ?_
  refine sdo (rep := Rp) g0 a1 f1 fun J2 B2 H2 S2 u y g02 g2 a2 r2 f2 => ?_
  cases y with
  | ptr j =>
    dsimp only at f2
    cases q : S2[j]? with
    | none => simp only [q] at f2; exact f2.elim
    | some m =>
      cases m with
      | ins C' ns xs =>
        simp only [q] at f2
        by_cases hC : C' = C ∧ ns.length < 1000
        · rw [if_pos hC] at f2
          obtain ⟨rfl, hl⟩ := hC
          obtain ⟨b, o', rfl, hI, hb, dx, vs, rfl, hlen, rv⟩ := Rp.ptr a2.st r2 q
          obtain ⟨p1, p2, p3⟩ := putN_rps (f := fl) (r1.gr g2) hlen rv
          have a3 := a2.write (u := .ins C' dx (putF fl v (ns.zip vs))) (m := .ins C' (putN fl x ns xs).1 (putN fl x ns xs).2) hI hb (fun ps z => by cases z) (fun q z => by cases z)
            ⟨dx, (putN fl v ns vs).2, by rw [putF_zip hlen, p1], by rw [← p1]; exact p2, p3⟩
          exact ⟨b, C', dx, _, rfl, hb, c, n, by simp [List.length_zip]; omega, f2 J2 B2 _ s (g02.trans (gr_write (List.mem_of_getElem? hI) (fun ps z => by cases z))) GB.rfl a3⟩
        · rw [if_neg hC] at f2; exact f2.elim
      | lst _ => simp only [q] at f2; exact f2.elim
      | dct _ _ => simp only [q] at f2; exact f2.elim
  | _ => exact f2.elim
/-- o[k] = v, o's list in the store -/
theorem s_item {o i value : Expr} {tpos : Pos} {cv : CE} (hv : PE X value (rdE T W cv)) (ho : PE X o (rdE T W co)) (hi : PE X i (rdE T W ck))
    (ha : ∀ v, assign (.Subscript o i tpos) X.env v = (do
      let ov ← holding [v] (eval o X.env)
      let iv ← holding [v, ov] (eval i X.env)
      standAt tpos
      holding [v, ov, iv] (setItem ov iv v)
      release [v, ov, iv] []) := by intro _; rfl)
    (hs : swapsWithSole [.Subscript o i tpos] value pos.line X.env = pure false := by rfl) (hw : swappedStores [.Subscript o i tpos] value X.env = pure none := by rfl)
    (h1 : (assignEach [.Subscript o i tpos] X.env).map (·.2) = [assign (.Subscript o i tpos) X.env] := by rfl) : PS X (.Assign [.Subscript o i tpos] value pos) (rdS T I0 B0 H0 W (sItem co ck cv)) := by
  refine ps_imp (ps_asg hv (pg_sub ho hi set_list ha) hs hw h1) ?_
  rintro D s H ⟨I, B, z, S, g, a, f⟩
  unfold sItem at f
  refine sdo (rep := Rp) g a f fun J B' H' S' v x g0 g1 a1 r1 f1 => ?_
  refine sdo (rep := Rp) g0 a1 f1 fun J2 B2 H2 S2 u y g02 g2 a2 r2 f2 => ?_
  refine sdo (rep := Rp) g02 a2 f2 fun J3 B3 H3 S3 w n g03 g3 a3 r3 f3 => ?_
  cases y with
  | ptr j =>
    cases n with
    | int n =>
      dsimp only at f3
      cases q : S3[j]? with
      | none => simp only [q] at f3; exact f3.elim
      | some m =>
        cases m with
        | lst xs =>
          simp only [q] at f3
          cases q2 : L2.ixN xs.length n with
          | none => simp only [q2] at f3; exact f3.elim
          | some t =>
            simp only [q2] at f3
            obtain ⟨b, o', rfl, hI, hb, vs, rfl, rv⟩ := Rp.ptr a3.st (r2.gr g3) q
            cases r3
            have a4 := a3.write (u := .lst (vs.set t v)) (m := .lst (xs.set t x)) hI hb (fun ps z => by cases z) (fun q z => by cases z) ⟨_, rfl, Rps.set ((r1.gr g2).gr g3) t rv⟩
            exact ⟨b, vs, n, t, rfl, rfl, hb, by rw [rv.len]; exact q2, f3 J3 B3 _ s (g03.trans (gr_write (List.mem_of_getElem? hI) (fun ps z => by cases z))) GB.rfl a4⟩
        | ins _ _ _ => simp only [q] at f3; exact f3.elim
        | dct _ _ => simp only [q] at f3; exact f3.elim
    | _ => exact f3.elim
  | _ => exact f3.elim
end
end CL
set_option Elab.async false
set_option linter.all false
set_option maxRecDepth 100000
/-! CL11: what a loop walks; for; while. -/
namespace CL
open PySem PySem.Spec PyProof.Rows L2
variable [TheK]
variable {L : Tl} {T : Pm} {X : Cx} {W : WX}

variable (L) in
/-- J walks the data ds -/
structure Wk (J : It) (I : List Addr) (B : Hp) (ds : List D) : Prop where
  goes : ∀ {I' B' H S} (i : Nat), GB I B I' B' → Sto L I' B' H S → i < ds.length → J.go i H
  stops : ∀ {I' B' H S}, GB I B I' B' → Sto L I' B' H S → J.stop ds.length H
  yields : ∀ {I' B' H S} (i : Nat) {x : V} {H' : Hp} {d : D}, GB I B I' B' → Sto L I' B' H S → J.yld i H x H' → ds[i]? = some d → ∃ I2 B2, Gr I' B' H I2 B2 H' ∧ Sto L I2 B2 H' S ∧ Rp I2 B2 x d
theorem Wk.gb {J : It} {I I' : List Addr} {B B' : Hp} {ds : List D} (w : Wk L J I B ds) (g : GB I B I' B') : Wk L J I' B' ds :=
  ⟨fun i g' st h => w.goes i (g.trans g') st h, fun g' st => w.stops (g.trans g') st, fun i _ _ _ g' st y e => w.yields i (g.trans g') st y e⟩
theorem Rps.at_ {I : List Addr} {B : Hp} {vs : List V} {xs : List D} (r : Rps I B vs xs) {i : Nat} {v : V} {d : D} (e : vs[i]? = some v) (e2 : xs[i]? = some d) : Rp I B v d := by
  obtain ⟨u, h1, h2⟩ := r.get e2
  rw [e] at h1; cases h1; exact h2
/-- what never changes, walked as it stands -/
theorem Wk.still {J : It} {n : Nat} {G : Hp → Prop} {I : List Addr} {B : Hp} {ds : List D} {vs : List V} (w : Walk J n G (YAt vs)) (hn : n = ds.length) (r : Rps I B vs ds) (hG : ∀ {I' B' H S}, GB I B I' B' → Sto L I' B' H S → G H) : Wk L J I B ds := by
  subst hn
  refine ⟨fun i g st h => w.goes i _ h (hG g st), fun g st => w.stops _ (hG g st), fun {I' B' H S} i {x H' d} g st y e => ?_⟩
  obtain ⟨e1, e2⟩ := w.yields i _ _ _ (List.getElem?_eq_some_iff.mp e).1 (hG g st) y
  subst e1
  exact ⟨I', B', Gr.refl _ _ _, st, (r.mono g.sub g.ext (xs := ds)).at_ e2 e⟩
theorem Wk.tup {K : PySem.W.Frag} {a : Addr} {I : List Addr} {B : Hp} {vs : List V} {ds : List D} (h : B a = some (.tup vs)) (r : Rps I B vs ds) : Wk L (Itt K a) I B ds :=
  Wk.still walk_tup r.len r fun g st => SqT.of (st.sub _ _ (g.ext _ _ h))
theorem Wk.lst {K : PySem.W.Frag} {a : Addr} {I : List Addr} {B : Hp} {vs : List V} {ds : List D} (h : Rd B a (.lst vs)) (r : Rps I B vs ds) : Wk L (Itl K a) I B ds :=
  Wk.still walk_list r.len r fun g st => .inl (st.rdL (h.elim (fun z => .inl (g.ext _ _ z)) fun ⟨o, z⟩ => .inr ⟨o, g.ext _ _ z⟩))
theorem Wk.scr {a : Addr} {I : List Addr} {B : Hp} {ns : List Int} (h : Rd B a (.lst (ns.map V.int)) ∨ KLst a ns) : Wk L (Itl TheK.K a) I B (ns.map D.int) := by
  refine Wk.still (vs := ns.map V.int) walk_list (by simp) (Rps.ints _) fun g st => ?_
  exact st.scr (h.imp (fun h => h.elim (fun z => .inl (g.ext _ _ z)) fun ⟨o, z⟩ => .inr ⟨o, g.ext _ _ z⟩) id)
theorem Wk.range {lo : Int} {n : Nat} {I : List Addr} {B : Hp} : Wk L (Itr lo n) I B ((List.range n).map fun (k : Nat) => D.int (lo + (k : Int))) := by
  refine ⟨fun i g st h => (walk_range (lo := lo) (n := n)).goes i _ (by simpa using h) trivial, fun g st => ?_, fun {I' B' H S} i {x H' d} g st y e => ?_⟩
  · simp only [List.length_map, List.length_range]
    exact (walk_range (lo := lo) (n := n)).stops _ trivial
  · have hi : i < n := by simpa using (List.getElem?_eq_some_iff.mp e).1
    obtain ⟨e1, e2⟩ := (walk_range (lo := lo) (n := n)).yields i _ _ _ hi trivial y
    subst e1 e2
    have e3 : d = .int (lo + (i : Int)) := by
      rw [List.getElem?_map, List.getElem?_range hi] at e
      cases e; rfl
    subst e3
    exact ⟨I', B', Gr.refl _ _ _, st, rfl⟩
/-- new pairs of the items of two lists -/
theorem Wk.pairs {J : It} {n : Nat} {G : Hp → Prop} {I : List Addr} {B : Hp} {ds : List D} {xs ys : Nat → Option V} (w : Walk J n G (YPair xs ys)) (hn : n = ds.length)
    (r : ∀ i x y, xs i = some x → ys i = some y → i < n → ∃ d1 d2, ds[i]? = some (.tup [d1, d2]) ∧ Rp I B x d1 ∧ Rp I B y d2) (hG : ∀ {I' B' H S}, GB I B I' B' → Sto L I' B' H S → G H) : Wk L J I B ds := by
  subst hn
  refine ⟨fun i g st h => w.goes i _ h (hG g st), fun g st => w.stops _ (hG g st), fun {I' B' H S} i {v H' d} g st y e => ?_⟩
  have hi := (List.getElem?_eq_some_iff.mp e).1
  obtain ⟨t, x, z, rfl, ht, rfl, e1, e2⟩ := w.yields i _ _ _ hi (hG g st) y
  obtain ⟨d1, d2, q, r1, r2⟩ := r i x z e1 e2 hi
  rw [e] at q; cases q
  refine ⟨I', upd B' t (.tup [x, z]), gr_new ht st.sub, st.new ht (fun _ z => by cases z), t, [x, z], rfl, upd_same, ?_⟩
  exact Rps.new (vs := [x, z]) (xs := [d1, d2]) ⟨r1.mono g.sub g.ext, r2.mono g.sub g.ext, trivial⟩ st ht

/-- what a loop's source gives -/
def rdI (T : Pm) (W : WX) (ca : CA) : TI := fun s H R => ∃ H0 I B z S, At T H0 I B H s z S ∧ match ca z S with
  | .ok ds S' => ∀ J B' H' Jt, Gr I B H J B' H' → Sto T.tabs J B' H' S' → Wk T.tabs Jt J B' ds → R Jt H'
  | .exc e S' => ∀ J B' H' c dd, Gr I B H J B' H' → Sto T.tabs J B' H' S' → RpX J B' c dd e → W c dd s H'
  | .bad => False
theorem pi_imp {tg e : Expr} {t t' : TI} (h : PI X tg e t) (k : ∀ s H R, t' s H R → t s H R) : PI X tg e t' := ⟨fun pins s σ H R I hq => h.run pins s σ H R I (k _ _ _ hq)⟩
section
variable {α β : Type} {rep : List Addr → Hp → β → α → Prop} {s : L2.St} {I : List Addr} {B H H0 : Hp} {z : Sl} {S : Store}
theorem bindI {ca : C α} {f : α → Store → CL.R (List D)} {R : It → Hp → Prop} {P : β → Hp → Prop} (at_ : At T H0 I B H s z S)
    (h : match (ca z S).bind f with
      | .ok ds S' => ∀ J B' H' Jt, Gr I B H J B' H' → Sto T.tabs J B' H' S' → Wk T.tabs Jt J B' ds → R Jt H'
      | .exc e S' => ∀ J B' H' c dd, Gr I B H J B' H' → Sto T.tabs J B' H' S' → RpX J B' c dd e → W c dd s H'
      | .bad => False)
    (k : ∀ J B' H' S' v x, Gr I B H J B' H' → At T H0 J B' H' s z S' → rep J B' v x → (match f x S' with
      | .ok ds S2 => ∀ J2 B2 H2 Jt, Gr J B' H' J2 B2 H2 → Sto T.tabs J2 B2 H2 S2 → Wk T.tabs Jt J2 B2 ds → R Jt H2
      | .exc e S2 => ∀ J2 B2 H2 c dd, Gr J B' H' J2 B2 H2 → Sto T.tabs J2 B2 H2 S2 → RpX J2 B2 c dd e → W c dd s H2
      | .bad => False) → P v H') : rd T rep W ca s H P := by
  refine ⟨H0, I, B, z, S, at_, ?_⟩
  cases e : ca z S with
  | ok x S' =>
    rw [e] at h
    intro J B' H' v g st r
    refine k J B' H' S' v x g (at_.gr g st) r ?_
    simp only [CL.R.bind] at h
    cases q : f x S' with
    | ok ds S2 => rw [q] at h; exact fun J2 B2 H2 Jt g2 => h J2 B2 H2 Jt (g.trans g2)
    | exc e S2 => rw [q] at h; exact fun J2 B2 H2 c dd g2 => h J2 B2 H2 c dd (g.trans g2)
    | bad => rw [q] at h; exact h
  | exc x S' => rw [e] at h; exact h
  | bad => rw [e] at h; exact h
end
section
variable {tg e a b : Expr} {ce ca cb : CE} {p pos : Pos}
def iSeqT (c : CE) : CA := fun z S => (c z S).bind fun d S' => match d with
  | .tup xs => .ok xs S'
  | _ => .bad
def iSeqL (c : CE) : CA := fun z S => (c z S).bind fun d S' => match d with
  | .lst xs => .ok xs S'
  | .scr ns => .ok (ns.map D.int) S'
  | _ => .bad
theorem i_tup (he : PE X e (rdE T W ce)) : PI X tg e (rdI T W (iSeqT ce)) := by
  refine pi_imp (pi_tup he) ?_
  rintro s H R ⟨H0, I, B, z, S, a, h⟩
  refine bindI (rep := Rp) a h fun J B' H' S' v x g a1 r1 f1 => ?_
  cases x with
  | tup xs =>
    obtain ⟨c, vs, rfl, hc, hb, rv⟩ := Rp.tup a1.st r1
    exact ⟨c, rfl, ⟨vs, SqT.of hc⟩, f1 J B' H' _ (Gr.refl _ _ _) a1.st (Wk.tup hb rv)⟩
  | _ => exact f1.elim
theorem i_lst (he : PE X e (rdE T W ce)) (hK : X.K = TheK.K := by rfl) : PI X tg e (rdI T W (iSeqL ce)) := by
  refine pi_imp (pi_list he) ?_
  rintro s H R ⟨H0, I, B, z, S, a, h⟩
  refine bindI (rep := Rp) a h fun J B' H' S' v x g a1 r1 f1 => ?_
  cases x with
  | lst xs =>
    obtain ⟨c, vs, rfl, hc, hb, rv⟩ := Rp.lst a1.st r1
    exact ⟨c, rfl, ⟨vs, SqL.of hc⟩, f1 J B' H' _ (Gr.refl _ _ _) a1.st (Wk.lst (.inl hb) rv)⟩
  | scr ns =>
    obtain ⟨c, rfl, hb⟩ := r1
    rw [hK]
    exact ⟨c, rfl, ⟨_, a1.st.scr hb⟩, f1 J B' H' _ (Gr.refl _ _ _) a1.st (Wk.scr hb)⟩
  | _ => exact f1.elim
theorem i_range1 (hg : Gl X "range") (hm : X.mg "range" = none) (ha : PE X a (rdE T W ca)) (hs : starEach [a] X.env = [(false, eval a X.env)] := by rfl) : PI X tg (.Call (.Name "range" p) [a] [] pos) (rdI T W (iRange1 ca)) := by
  refine pi_imp (pi_range1 hg hm (pa_cons ha pa_nil hs) hs) ?_
  rintro s H R ⟨H0, I, B, z, S, a, h⟩
  refine bindI (rep := Rp) a h fun J B' H' S' v x g a1 r1 f1 => ?_
  cases x with
  | int n =>
    dsimp only at f1
    by_cases hb0 : in62 n = true
    · rw [if_pos hb0] at f1
      have hb := in62_iff hb0
      cases r1
      exact ⟨n, rfl, hb.1, hb.2, f1 J B' H' _ (Gr.refl _ _ _) a1.st Wk.range⟩
    · rw [if_neg hb0] at f1; exact f1.elim
  | _ => exact f1.elim
theorem i_range2 (hg : Gl X "range") (hm : X.mg "range" = none) (ha : PE X a (rdE T W ca)) (hb : PE X b (rdE T W cb)) (hs : starEach [a, b] X.env = [(false, eval a X.env), (false, eval b X.env)] := by rfl) (hs2 : starEach [b] X.env = [(false, eval b X.env)] := by rfl) :
    PI X tg (.Call (.Name "range" p) [a, b] [] pos) (rdI T W (iRange2 ca cb)) := by
  refine pi_imp (pi_range2 hg hm (pa_cons ha (pa_cons hb pa_nil hs2) (by rw [hs, hs2])) hs hs2) ?_
  rintro s H R ⟨H0, I, B, z, S, a, h⟩
  refine bindI (rep := Rp) a h fun J B' H' S' v x g a1 r1 f1 => ?_
  refine bindI (rep := Rp) a1 f1 fun J2 B2 H2 S2 u y g2 a2 r2 f2 => ?_
  cases x with
  | int i =>
    cases y with
    | int j =>
      dsimp only at f2
      by_cases hb0 : (in62 i && in62 j) = true
      · rw [if_pos hb0] at f2
        have hb : (-(2 ^ 62) ≤ i ∧ i < 2 ^ 62) ∧ -(2 ^ 62) ≤ j ∧ j < 2 ^ 62 := ⟨in62_iff (Bool.and_eq_true_iff.mp hb0).1, in62_iff (Bool.and_eq_true_iff.mp hb0).2⟩
        cases r1; cases r2
        exact ⟨i, j, rfl, ⟨hb.1.1, hb.1.2, hb.2.1, hb.2.2⟩, f2 J2 B2 H2 _ (Gr.refl _ _ _) a2.st Wk.range⟩
      · rw [if_neg hb0] at f2; exact f2.elim
    | _ => exact f2.elim
  | _ => exact f2.elim
end

/-! ### for -/
section
variable {I0 : List Addr} {B0 H0 : Hp} {tg iter : Expr} {body : List Stmt} {ca : CA} {g : Tg} {cb : CS} {pos : Pos}
theorem s_for (hp : PassesOwn (model X.prog X.w) X.A X.env X.xe) (hc : X.calm = true) (hi : PI X tg iter (rdI T W ca)) (hg : PG X tg (rdG T H0 g)) (hb : PSs X body (rdS T I0 B0 H0 W cb))
    (hs : ∀ x, foldedSetIterable iter X.env x = pure x := by intro _; rfl) : PS X (.For tg iter body [] pos) (rdS T I0 B0 H0 W (sFor ca g cb)) := by
  refine ps_imp (ps_for hp hc hi hg hb hs) ?_
  rintro D s H ⟨I, B, z, S, g0, a, f⟩
  unfold sFor at f
  refine ⟨H0, I, B, z, S, a, ?_⟩
  cases e : ca z S with
  | bad => rw [e] at f; exact f.elim
  | exc x S' =>
    rw [e] at f
    exact fun J B' H' c dd g st r => f J B' H' s c dd (g0.trans g) g.gb (a.gr g st) r
  | ok ds S' =>
    rw [e] at f
    simp only [oDo] at f
    intro J1 B1 H1 Jt gr1 st1 wk
    refine ⟨fun i m s H => m = ds.length - i ∧ i ≤ ds.length ∧ ∃ I' B' z S, Gr I0 B0 H0 I' B' H ∧ GB J1 B1 I' B' ∧ At T H0 I' B' H s z S ∧ FinS T I0 B0 H0 W I' B' D (loop g cb (ds.drop i) z S),
      ⟨ds.length, by simp, Nat.zero_le _, J1, B1, z, S', g0.trans gr1, GB.rfl, a.gr gr1 st1, by simpa using f.gb gr1.gb⟩, ?_⟩
    rintro i m s H ⟨rfl, hi, I', B', z, S, g', gb, a', f'⟩
    by_cases hlt : i < ds.length
    · refine .inr ⟨wk.goes i gb a'.st hlt, fun s' H' => ∃ I' B' z S, Gr I0 B0 H0 I' B' H' ∧ GB J1 B1 I' B' ∧ At T H0 I' B' H' s' z S ∧ FinS T I0 B0 H0 W I' B' D (loop g cb (ds.drop (i + 1)) z S),
        fun s' H' p' => ⟨ds.length - (i + 1), by omega, rfl, hlt, p'⟩, fun x H' y => ?_⟩
      obtain ⟨I2, B2, g2, st2, r2⟩ := wk.yields i gb a'.st y (List.getElem?_eq_getElem hlt)
      have a2 := a'.gr g2 st2
      refine ⟨I2, B2, z, S, ds[i], a2, r2, ?_⟩
      rw [List.drop_eq_getElem_cons hlt, loop] at f'
      cases q : g ds[i] z with
      | none => rw [q] at f'; exact f'.elim
      | some z1 =>
        rw [q] at f'
        dsimp only at f' ⊢
        intro s' as'
        refine ⟨I2, B2, z1, S, g'.trans g2, as', ?_⟩
        have f2 := FinS.gb f' g2.gb
        cases q2 : cb z1 S with
        | nx z2 S2 =>
          rw [q2] at f2
          exact fun J B' H' s g3 gb3 a3 => ⟨J, B', z2, S2, g3, (gb.trans g2.gb).trans gb3, a3, FinS.gb f2 gb3⟩
        | ct z2 S2 =>
          rw [q2] at f2
          exact fun J B' H' s g3 gb3 a3 => ⟨J, B', z2, S2, g3, (gb.trans g2.gb).trans gb3, a3, FinS.gb f2 gb3⟩
        | bk z2 S2 => rw [q2] at f2; exact f2
        | rt d S2 => rw [q2] at f2; exact f2
        | exc x z2 S2 => rw [q2] at f2; exact f2
        | bad => rw [q2] at f2; exact f2
    · have ei : i = ds.length := by omega
      subst ei
      rw [List.drop_length, loop] at f'
      exact .inl ⟨wk.stops gb a'.st, f' I' B' H s g' GB.rfl a'⟩
theorem s_while {c : Expr} {t : CT} (n : Nat) (hp : PassesOwn (model X.prog X.w) X.A X.env X.xe) (hc : PT X c (rdT T W t)) (hb : PSs X body (rdS T I0 B0 H0 W cb)) : PS X (.While c body [] pos) (rdS T I0 B0 H0 W (sWhile n t cb)) := by
  refine ps_imp (ps_while hp hc hb) ?_
  rintro D s H ⟨I, B, z, S, g0, a, f⟩
  refine ⟨fun m s H => ∃ I B z S, Gr I0 B0 H0 I B H ∧ At T H0 I B H s z S ∧ FinS T I0 B0 H0 W I B D (wloop t cb m z S), ⟨n, I, B, z, S, g0, a, f⟩, ?_⟩
  rintro m s H ⟨I, B, z, S, g0, a, f⟩
  cases m with
  | zero => exact f.elim
  | succ m =>
    rw [wloop] at f
    refine sdo (rep := rB) g0 a f fun J B' H' S' v x g1 g2 a1 r1 f1 => ?_
    cases r1
    cases v with
    | false => exact f1 J B' H' s g1 GB.rfl a1
    | true =>
      rw [if_pos rfl] at f1 ⊢
      refine ⟨fun s H => ∃ I B z S, Gr I0 B0 H0 I B H ∧ At T H0 I B H s z S ∧ FinS T I0 B0 H0 W I B D (wloop t cb m z S), fun s' H' p => ⟨m, Nat.lt_succ_self _, p⟩, J, B', z, S', g1, a1, ?_⟩
      cases q2 : cb z S' with
      | nx z2 S2 =>
        rw [q2] at f1
        exact fun J B' H' s g3 gb3 a3 => ⟨J, B', z2, S2, g3, a3, FinS.gb f1 gb3⟩
      | ct z2 S2 =>
        rw [q2] at f1
        exact fun J B' H' s g3 gb3 a3 => ⟨J, B', z2, S2, g3, a3, FinS.gb f1 gb3⟩
      | bk z2 S2 => rw [q2] at f1; exact f1
      | rt d S2 => rw [q2] at f1; exact f1
      | exc x z2 S2 => rw [q2] at f1; exact f1
      | bad => rw [q2] at f1; exact f1
end
end CL
set_option Elab.async false
set_option linter.all false
set_option maxRecDepth 100000
/-! CL12: comprehensions. -/
namespace CL
open PySem PySem.Spec PyProof.Rows L2
variable [TheK]
variable {L : Tl} {T : Pm} {X : Cx} {W : WX}

abbrev wNo : WX := fun _ _ _ _ => False
/-- only the slots vs have changed -/
structure Tch (vs : List Nat) (s s' : L2.St) : Prop where
  len : s'.length = s.length
  out : ∀ i, i ∉ vs → s'[i]? = s[i]?
theorem Tch.refl (vs : List Nat) (s : L2.St) : Tch vs s s := ⟨rfl, fun _ _ => rfl⟩
theorem Tch.trans {vs : List Nat} {s s1 s2 : L2.St} (h : Tch vs s s1) (k : Tch vs s1 s2) : Tch vs s s2 := ⟨k.len.trans h.len, fun i hi => (k.out i hi).trans (h.out i hi)⟩
theorem wipe_in {s : L2.St} {i : Nat} : ∀ {vs : List Nat}, i ∈ vs → i < s.length → (wipe s vs)[i]? = some none
  | v :: vs, h, hl => by
    unfold wipe
    rw [List.getElem?_set]
    by_cases e : v = i
    · rw [if_pos e, if_pos (by rw [wipe_length]; exact e ▸ hl)]
    · rw [if_neg e]
      have : i ∈ vs := by
        rcases List.mem_cons.mp h with q | q
        · exact absurd q.symm e
        · exact q
      exact wipe_in this hl
theorem Tch.wipe {vs : List Nat} {s s' : L2.St} (h : Tch vs s s') : wipe s' vs = wipe s vs := by
  apply List.ext_getElem?
  intro i
  by_cases hi : i ∈ vs
  · by_cases hl : i < s.length
    · rw [wipe_in hi hl, wipe_in hi (by rw [h.len]; exact hl)]
    · rw [List.getElem?_eq_none (by rw [wipe_length, h.len]; omega), List.getElem?_eq_none (by rw [wipe_length]; omega)]
  · rw [wipe_out hi, wipe_out hi, h.out i hi]
section
variable {vs : List Nat}
variable (T) in
def rdGw (vs : List Nat) (g : Tg) : TG := fun v s H Q => ∃ H0 I B z S d, At T H0 I B H s z S ∧ Rp I B v d ∧ match g d z with
  | some z' => ∀ s', At T H0 I B H s' z' S → Tch vs s s' → Q s' H
  | none => False
variable (T) in
def rdGws (vs : List Nat) (g : Tgs) : TGs := fun us s H Q => ∃ H0 I B z S ds, At T H0 I B H s z S ∧ Rps I B us ds ∧ match g ds z with
  | some z' => ∀ s', At T H0 I B H s' z' S → Tch vs s s' → Q s' H
  | none => False
theorem gw_name {i : Nat} {x : Str} {pos : Pos} (hN : X.N.Nodup) (hi : X.N[i]? = some x) (hx : Loc X.env.scope x) (hv : i ∈ vs) (hf : X.fn x = true ∨ X.env.scope.names.lookup x = some .local := by first | exact .inl rfl | exact .inr rfl | assumption) : PG X (.Name x pos) (rdGw T vs (gN i)) := by
  refine pg_imp (pg_name hN hi hx hf) ?_
  rintro v s H Q ⟨H0, I, B, z, S, d, a, r, f⟩
  refine f _ (a.setD i r) ⟨by simp, fun j hj => ?_⟩
  rw [List.getElem?_set_ne]
  exact fun e => hj (e ▸ hv)
theorem gw_nil : PGs X [] (rdGws T vs gNil) := by
  refine pgs_imp pgs_nil ?_
  rintro us s H Q ⟨H0, I, B, z, S, ds, a, r, f⟩
  unfold gNil at f
  match ds, us, r with
  | [], [], _ => exact ⟨rfl, f s a (Tch.refl _ _)⟩
theorem gw_cons {tg : Expr} {tgs : List Expr} {g : Tg} {gs : Tgs} (h1 : PG X tg (rdGw T vs g)) (h2 : PGs X tgs (rdGws T vs gs))
    (hs : (assignEach (tg :: tgs) X.env).map (·.2) = assign tg X.env :: (assignEach tgs X.env).map (·.2) := by rfl) : PGs X (tg :: tgs) (rdGws T vs (gCons g gs)) := by
  refine pgs_imp (pgs_cons h1 h2 hs) ?_
  rintro us s H Q ⟨H0, I, B, z, S, ds, a, r, f⟩
  match ds, us, r with
  | d :: ds, v :: us, r =>
    refine ⟨v, us, rfl, H0, I, B, z, S, d, a, r.1, ?_⟩
    unfold gCons at f
    dsimp only at f
    cases q : g d z with
    | none => rw [q] at f; exact f
    | some z1 =>
      rw [q] at f
      dsimp only
      intro s' a' t1
      refine ⟨H0, I, B, z1, S, ds, a', r.2, ?_⟩
      simp only [Option.bind] at f
      cases q2 : gs ds z1 with
      | none => rw [q2] at f; exact f
      | some z2 =>
        rw [q2] at f
        exact fun s2 a2 t2 => f s2 a2 (t1.trans t2)
  | [], _, _ => exact f.elim
theorem gw_tup {es : List Expr} {k : Nat} {gs : Tgs} {n : Nat} {pos : Pos} (hc : X.calm = true) (h : PGs X es (rdGws T vs gs)) (hn : (assignEach es X.env).length = n := by rfl) (hst : (assignEach es X.env).findIdx? (·.1) = none := by rfl) : PG X (.Tuple es k pos) (rdGw T vs (CL.gTup n gs)) := by
  refine pg_imp (pg_tup hc h hn hst) ?_
  rintro v s H Q ⟨H0, I, B, z, S, d, a, r, f⟩
  unfold CL.gTup at f
  cases d with
  | tup xs =>
    obtain ⟨b, us, rfl, hb, _, rv⟩ := Rp.tup a.st r
    dsimp only at f
    by_cases hl : xs.length = n
    · rw [if_pos hl] at f
      exact ⟨b, us, rfl, SqT.of hb, by rw [rv.len]; exact hl, H0, I, B, z, S, xs, a, rv, f⟩
    · rw [if_neg hl] at f; exact f.elim
  | _ => exact f.elim
end
section
variable {H0 : Hp} {I J : List Addr} {B H B' H' : Hp} {s : L2.St} {z : Sl} {S : Store}
theorem At.wipe (a : At T H0 I B H s z S) : ∀ vs : List Nat, At T H0 I B H (wipe s vs) (wipeD z vs) S
  | [] => a
  | v :: vs => (At.wipe a vs).setU v none
/-- an object on its own: no slot, no store, nothing that stays -/
structure Hid (D : Addr) (o : HO) (I : List Addr) (B H : Hp) : Prop where
  at_ : H D = some o
  nb : B D = none
  ni : D ∉ I
theorem Hid.gr {D : Addr} {o : HO} (h : Hid D o I B H) (nt : ∀ ps, o ≠ .tbl ps) (g : Gr I B H J B' H') : Hid D o J B' H' := by
  refine ⟨g.keep D o h.at_ h.ni nt, ?_, fun hm => ?_⟩
  · cases q : B' D with
    | none => rfl
    | some u =>
      rcases g.new D u q with e | e
      · rw [h.nb] at e; cases e
      · exact (e.no h.at_ nt).elim
  · obtain ⟨k, rfl, hk⟩ := g.pre
    rcases List.mem_append.mp hm with e | e
    · exact h.ni e
    · exact (hk D e).no h.at_ nt
theorem Sto.hid {D : Addr} {o u : HO} (st : Sto L I B H S) (h : Hid D o I B H) (n1 : ∀ ps, o ≠ .tbl ps) (n2 : ∀ f, o ≠ .ext f) : Sto L I B (upd H D u) S := by
  refine ⟨st.len, st.nd, st.dj, fun b w q => ?_, st.nt, fun k m q => ?_, tab_upd st.tb h.at_ n1 n2⟩
  · rw [upd_ne]
    · exact st.sub b w q
    · intro e; subst e; rw [h.nb] at q; cases q
  · obtain ⟨b, w, h1, h2, h3⟩ := st.at_ k m q
    refine ⟨b, w, h1, ?_, h3⟩
    rw [upd_ne]
    · exact h2
    · intro e; subst e; exact h.ni (List.mem_of_getElem? h1)
/-- it is laid down for good -/
theorem Sto.show_ {D : Addr} {o : HO} (st : Sto L I B H S) (h : Hid D o I B H) (nt : ∀ ps, o ≠ .tbl ps) : Sto L I (upd B D o) H S := by
  have hB : ∀ c u, B c = some u → upd B D o c = some u := fun c u q => by
    rw [upd_ne]
    · exact q
    · intro e; subst e; rw [h.nb] at q; cases q
  refine ⟨st.len, st.nd, fun c hc => ?_, fun c u q => ?_, fun c u q => ?_, fun k m q => ?_, st.tb⟩
  · have ne : c ≠ D := fun e => h.ni (by rw [← e]; exact hc)
    rw [upd_ne ne]; exact st.dj c hc
  · by_cases e : c = D
    · subst e; rw [upd_same] at q; cases q; exact h.at_
    · rw [upd_ne e] at q; exact st.sub c u q
  · by_cases e : c = D
    · subst e; rw [upd_same] at q; cases q; exact nt
    · rw [upd_ne e] at q; exact st.nt c u q
  · obtain ⟨b, w, h1, h2, h3⟩ := st.at_ k m q
    exact ⟨b, w, h1, h2, h3.mono ⟨[], by simp⟩ hB⟩
theorem Gr.show_ {D : Addr} {o : HO} (g : Gr I B H J B' H') (h0 : Fr H D) (h : Hid D o J B' H') : Gr I B H J (upd B' D o) H' where
  pre := g.pre
  ext := fun c u q => by
    have ne : c ≠ D := fun e => by
      subst e
      have := g.ext _ _ q
      rw [h.nb] at this; cases this
    rw [upd_ne ne]; exact g.ext c u q
  new := fun c u q => by
    by_cases e : c = D
    · exact .inr (e ▸ h0)
    · rw [upd_ne e] at q; exact g.new c u q
  keep := g.keep
  dom := g.dom
end
/-- a reading without exceptions, as one with -/
theorem lc_read {it : CA} {g : Tg} {t : CT} {e : CE} {vs : List Nat} {s : L2.St} {H : Hp} {Q : VK} (h : rdE T W (cLc it g t e vs) s H Q) :
    tLc (rdI T W it) (rdGw T vs g) (rdT T wNo t) (rdE T wNo e) vs s H Q := by
  obtain ⟨H0, I, B, z, S, a, h⟩ := h
  refine ⟨H0, I, B, z, S, a, ?_⟩
  unfold cLc at h
  cases q : it z S with
  | bad => rw [q] at h; exact h.elim
  | exc x S' => rw [q] at h; exact h
  | ok ds S1 =>
    rw [q] at h
    simp only [R.bind] at h
    intro I1 B1 H1 Jt g1 st1 wk D hD
    have h := Fin.gr h g1
    have a1 := (a.gr g1 st1).wipe vs
    have hid : Hid D (.lst []) I1 B1 (upd H1 D (.lst [])) := ⟨upd_same, st1.noB hD, st1.notIn hD⟩
    refine ⟨fun i m H => m = ds.length - i ∧ i ≤ ds.length ∧ ∃ I' B' S' acc accD, Gr I1 B1 H1 I' B' H ∧ Sto T.tabs I' B' H S' ∧ Hid D (.lst acc) I' B' H ∧ Rps I' B' acc accD ∧
        Fin T.tabs Rp W s I1 B1 H1 Q ((lcGo g t e (wipeD z vs) (ds.drop i) S' accD).bind fun xs S2 => .ok (.lst xs) S2),
      ⟨ds.length, by simp, Nat.zero_le _, I1, B1, S1, [], [], gr_own (Gr.refl _ _ _) (.of hD), st1.mono_H (keep_new hD), hid, trivial, by simpa using h⟩, ?_⟩
    rintro i m H ⟨rfl, hi, I', B', S', acc, accD, gr', st', hid', racc, f'⟩
    by_cases hlt : i < ds.length
    · refine .inr ⟨wk.goes i gr'.gb st' hlt, fun H => ∃ I' B' S' acc accD, Gr I1 B1 H1 I' B' H ∧ Sto T.tabs I' B' H S' ∧ Hid D (.lst acc) I' B' H ∧ Rps I' B' acc accD ∧
          Fin T.tabs Rp W s I1 B1 H1 Q ((lcGo g t e (wipeD z vs) (ds.drop (i + 1)) S' accD).bind fun xs S2 => .ok (.lst xs) S2),
        fun H' p => ⟨ds.length - (i + 1), by omega, rfl, hlt, p⟩, fun x H' y => ?_⟩
      obtain ⟨I2, B2, g2, st2, r2⟩ := wk.yields i gr'.gb st' y (List.getElem?_eq_getElem hlt)
      have a2 := a1.gr (gr'.trans g2) st2
      have hid2 := hid'.gr (fun ps z => by cases z) g2
      refine ⟨H0, I2, B2, wipeD z vs, S', ds[i], a2, r2, ?_⟩
      rw [List.drop_eq_getElem_cons hlt, lcGo] at f'
      cases q1 : g ds[i] (wipeD z vs) with
      | none => rw [q1] at f'; exact f'.elim
      | some z1 =>
        rw [q1] at f'
        dsimp only at f' ⊢
        intro s2 as2 tch
        refine ⟨by rw [tch.wipe, Tch.wipe (vs := vs) (s := s) ⟨wipe_length _ _, fun i hi => wipe_out hi⟩], ?_⟩
        refine ⟨H0, I2, B2, z1, S', as2, ?_⟩
        cases q2 : t z1 S' with
        | bad => rw [q2] at f'; exact f'.elim
        | exc x S3 => rw [q2] at f'; exact f'.elim
        | ok b S3 =>
          rw [q2] at f'
          intro I3 B3 H3 b' g3 st3 rb
          cases rb
          have hid3 := hid2.gr (fun ps z => by cases z) g3
          have gr3 := (gr'.trans g2).trans g3
          cases b with
          | false =>
            rw [if_neg Bool.false_ne_true]
            exact ⟨I3, B3, S3, acc, accD, gr3, st3, hid3, (racc.gr g2).gr g3, f'⟩
          | true =>
            rw [if_pos rfl]
            refine ⟨H0, I3, B3, z1, S3, as2.gr g3 st3, ?_⟩
            dsimp only at f'
            cases q3 : e z1 S3 with
            | bad => rw [q3] at f'; exact f'.elim
            | exc x S4 => rw [q3] at f'; exact f'.elim
            | ok d S4 =>
              rw [q3] at f'
              dsimp only at f'
              intro I4 B4 H4 v4 g4 st4 r4
              have hid4 := hid3.gr (fun ps z => by cases z) g4
              by_cases hl : accD.length < 16777216
              · rw [if_pos hl] at f'
                have ra := ((racc.gr g2).gr g3).gr g4
                refine ⟨acc, hid4.at_, by rw [ra.len]; exact line_lt hl, I4, B4, S4, acc ++ [v4], accD ++ [d], gr_own (gr3.trans g4) (.of hD), st4.hid hid4 (fun ps z => by cases z) (fun q z => by cases z), ⟨upd_same, hid4.nb, hid4.ni⟩, ra.append ⟨r4, trivial⟩, f'⟩
              · rw [if_neg hl] at f'; exact f'.elim
    · have ei : i = ds.length := by omega
      subst ei
      rw [List.drop_length, lcGo] at f'
      refine .inl ⟨wk.stops gr'.gb st', ?_⟩
      have hh : Hid D (.lst acc) I' B' H := hid'
      exact f' I' (upd B' D (.lst acc)) H (.ref D) (gr'.show_ (.of hD) hh) (st'.show_ hh (fun ps z => by cases z)) ⟨D, acc, rfl, upd_same, racc.mono ⟨[], by simp⟩ (xs := accD) fun c u q => by
        rw [upd_ne]
        · exact q
        · intro e; subst e; rw [hh.nb] at q; cases q⟩
section
variable {tg iter elt : Expr} {ifs : List Expr} {scope : Scope} {own : List (Str × Nat)} {it : CA} {g : Tg} {t : CT} {e : CE} {pos : Pos}
theorem ts_nil : PTs X [] (rdT T W tYesC) := by
  refine ⟨fun pins s σ H Q I h => pts_nil.run pins s σ H Q I ?_⟩
  obtain ⟨H0, J, B, z, S, a, f⟩ := h
  exact Fin.here (rep := rB) (x := true) (v := true) f a.st rfl
theorem ts_one {c : Expr} (h : PT X c (rdT T W t)) : PTs X [c] (rdT T W t) := pts_one h
theorem e_lc (hc : X.calm = true) (hN : X.N.Nodup) {Nn : List Str} {ss : Scope} (hNn : X.N = Nn) (hss : X.env.scope = ss) (ok : blkC Nn ss scope own = true) (hi : PI X tg iter (rdI T W it))
    (hg : ∀ (s : Shared) (H : Hp) (C : Addr) (cl : List (Str × Addr)) (fp : List Addr), PG (X.blk s H scope (compEnvC scope cl C X.env) fp) tg (rdGw T (own.map (·.2)) g))
    (ht : ∀ (s : Shared) (H : Hp) (C : Addr) (cl : List (Str × Addr)) (fp : List Addr), PTs (X.blk s H scope (compEnvC scope cl C X.env) fp) ifs (rdT T wNo t))
    (he : ∀ (s : Shared) (H : Hp) (C : Addr) (cl : List (Str × Addr)) (fp : List Addr), PE (X.blk s H scope (compEnvC scope cl C X.env) fp) elt (rdE T wNo e)) (hs : ∀ x, foldedSetIterable iter X.env x = pure x := by intro _; rfl) :
    PE X (.ListComp elt [⟨tg, iter, ifs, 0⟩] scope pos) (rdE T W (cLc it g t e (own.map (·.2)))) :=
  pe_imp (pe_lc hc hN hi (blkOk_by (by subst hNn hss; exact ok)) hg ht he hs) fun _ _ _ h => lc_read h
theorem s_setLc {I0 : List Addr} {B0 H0 : Hp} {i : Nat} {y : Str} {py spos : Pos} (hc : X.calm = true) (hN : X.N.Nodup) (hy : X.N[i]? = some y) (hyl : X.env.scope.names.lookup y = some .local)
    (hsw : swapsWith (.ListComp elt [⟨tg, iter, ifs, 0⟩] scope pos) (some (.Name y py)) spos.line X.env = pure true) {Nn : List Str} {ss : Scope} (hNn : X.N = Nn) (hss : X.env.scope = ss) (ok : blkC Nn ss scope own = true) (hi : PI X tg iter (rdI T W it))
    (hg : ∀ (s : Shared) (H : Hp) (C : Addr) (cl : List (Str × Addr)) (fp : List Addr), PG (X.blk s H scope (compEnvC scope cl C X.env) fp) tg (rdGw T (own.map (·.2)) g))
    (ht : ∀ (s : Shared) (H : Hp) (C : Addr) (cl : List (Str × Addr)) (fp : List Addr), PTs (X.blk s H scope (compEnvC scope cl C X.env) fp) ifs (rdT T wNo t))
    (he : ∀ (s : Shared) (H : Hp) (C : Addr) (cl : List (Str × Addr)) (fp : List Addr), PE (X.blk s H scope (compEnvC scope cl C X.env) fp) elt (rdE T wNo e)) (hs : ∀ x, foldedSetIterable iter X.env x = pure x := by intro _; rfl) :
    PS X (.Assign [.Name y py] (.ListComp elt [⟨tg, iter, ifs, 0⟩] scope pos) spos) (rdS T I0 B0 H0 W (sSet i (cLc it g t e (own.map (·.2))))) := by
  refine ps_imp (ps_setLc hc hN hy hyl hsw hi (blkOk_by (by subst hNn hss; exact ok)) hg ht he hs) ?_
  rintro D s H ⟨I, B, z, S, g', a, f⟩
  exact lc_read (sdo (rep := Rp) g' a f fun J B' H' S' v x g0 g1 a1 r1 f1 => f1 J B' H' _ g0 GB.rfl (a1.setD i r1))
end
end CL
set_option Elab.async false
set_option linter.all false
set_option maxRecDepth 100000
set_option maxHeartbeats 4000000
/-! CL13: an own exception class whose __init__ takes keywords alone. -/
namespace PySem
namespace XKC
open Builtin Builtin.ObjectAttr HandSPX
section
variable {M : Model} {A : Around} {E : Value → Shared → Prop} {h : Heap} {g : Array GenState} {d : Drawn} {t : Nat} {os : OsState}
variable {nm q : Str} {C N : Addr} {bs bm bmB : List Value} {hdct : Bool} {sn : List Str} {sub : List Value} {ab : Bool} {col : Option Bool} {dd : Option Addr} {k0 k1 k2 k3 k5 : Option Value} {B newId initId : String}
theorem xk_check (F : ExcBaseFacts B newId initId bmB) (hT : ∀ X : String, bm.contains (.type X) = bmB.contains (.type X)) {kw : List (Str × Value)} {Q : Unit → Shared → Prop}
    (hC : h.get? C = some (excClassObj nm q C N bs bm hdct sn sub ab col dd k0 k1 k2 k3 k5 newId)) (hq : Q () ⟨h, g, d, t, os⟩) : wpAny M A (checkBuiltinCall newId ⟨[.ref C], kw⟩) Q E ⟨h, g, d, t, os⟩ := by
  have hh : (Value.ref C :: bm).contains (.type B) = true := by rw [List.contains_cons, hT, F.hasB, Bool.or_true]
  have hn := F.noStar
  simp only [checkBuiltinCall, F.newKind, F.newSplit, F.newRow]
  repeat (first | refine wpAny_loadPart_at hC ?_ | (refine wpAny_isSubtype_exc hC ?_; rw [hh]) | refine wpAny_staticBase_exc hC ?_ | refine wpAny_madeBy_exc hC ?_ | simp only [bne_self_eq_false, Bool.false_eq_true, if_false] | wp_step)
  exact hq
end
section
variable {prog : Program} {w : World} {A : Around} {E : Value → Shared → Prop} {R : Result → Shared → Prop} {h : Heap} {g : Array GenState} {d : Drawn} {t : Nat} {os : OsState}
variable {nm q : Str} {C N : Addr} {bs bm bmB : List Value} {hdct : Bool} {sn : List Str} {sub : List Value} {ab : Bool} {col : Option Bool} {dd : Option Addr} {k0 k1 k2 k3 k5 : Option Value} {B newId initId : String}
theorem xk_new (F : ExcBaseFacts B newId initId bmB) (hT : ∀ X : String, bm.contains (.type X) = bmB.contains (.type X)) {kw : List (Str × Value)}
    (hC : h.get? C = some (excClassObj nm q C N bs bm hdct sn sub ab col dd k0 k1 k2 k3 k5 newId))
    (hq : R (.ok (.ret (.ref (h.objs.size + 1)))) ⟨(h.push (W.kdv_tup [])).push (excO C h.objs.size), g, d, t, os⟩) :
    codeAny (model prog w) A (.builtin newId ⟨[.ref C], kw⟩) R ⟨h, g, d, t, os⟩ := by
  have he := F.ends
  have b1 : (Value.ref C :: bm).contains (.type B) = true := by rw [List.contains_cons, hT, F.hasB, Bool.or_true]
  have b2 : (Value.ref C :: bm).contains (.type "AttributeError") = false := by rw [List.contains_cons, hT, F.noAttr]; rfl
  have b3 : (Value.ref C :: bm).contains (.type "NameError") = false := by rw [List.contains_cons, hT, F.noName]; rfl
  have hrest : ([] : List Value).length ≤ sizeLine := Nat.zero_le _
  refine codeAny_builtinAt F.entry ?_
  unfold Builtin.«BaseException.__new__»
  refine wpAt_bind ?_
  show wpAt _ _ _ (stack >>= _) _ _ _
  refine wpAt_bind (wpAt_stack fun p below => wpAt_of_wpAny ?_)
  wp_walk
  refine wpAt_of_wpAny ?_
  rw [F.owner]
  repeat (first | with_reducible refine wpAny_madeHere_exc F.canon hC ?_ | with_reducible refine wpAny_loadPart_at hC ?_ | (with_reducible refine wpAny_isSubtype_exc hC ?_; first | rw [b1] | rw [b2] | rw [b3]) | wp_step)
  show R _ _
  rw [Heap.size_push]
  exact hq
theorem xk_type (F : ExcBaseFacts B newId initId bmB) (hT : ∀ X : String, bm.contains (.type X) = bmB.contains (.type X)) {kw : List (Str × Value)} {fI : Addr} {Q : Fin → Shared → Prop}
    (hC : h.get? C = some (excClassObj nm q C N bs bm hdct sn sub ab col dd k0 k1 k2 k3 k5 newId))
    (hi : W.Looks (model prog w) h (typeLookup (.ref C) "__init__") (some (.ref fI))) (hb : ∀ self, W.Looks (model prog w) h (bindSpecial (.ref fI) self) (.ref fI, [self]))
    (hq : codeAny (model prog w) A (.call (.ref fI) ⟨[.ref (h.objs.size + 1)], kw⟩)
      (fun r s' => match r with | .ok (.ret v) => v = .none ∧ Q (.done (.ret (.ref (h.objs.size + 1)))) s' | .ok _ => False | .error e => E e s')
      ⟨(h.push (W.kdv_tup [])).push (excO C h.objs.size), g, d, t, os⟩) :
    wpAny (model prog w) A (Builtin.«type.__call__» ⟨[.ref C], kw⟩) Q E ⟨h, g, d, t, os⟩ := by
  repeat (first | with_reducible refine wpAny_loadPart_at hC ?_ | with_reducible refine wpAny_madeBy_exc hC ?_ | wp_step)
  refine codeAny_call_builtin_code (Code.quiet_builtin _ F.quiet) (xk_check F hT hC ?_)
  refine xk_new F hT hC ?_
  show wpAny _ _ _ _ _ _
  have k : ∀ b o, h.get? b = some o → ((h.push (W.kdv_tup [])).push (excO C h.objs.size)).get? b = some o := fun b o e => Heap.get?_push_of_some _ (Heap.get?_push_of_some _ e)
  have hk := k _ _ hC
  have hx : ((h.push (W.kdv_tup [])).push (excO C h.objs.size)).get? (h.objs.size + 1) = some (excO C h.objs.size) := by heap_get
  have hs : (Value.ref C :: bm).contains (.ref C) = true := by simp
  have j1 := hi.keeps k
  have j2 := (hb (.ref (h.objs.size + 1))).keeps k
  unfold isInstance
  repeat (first | with_reducible refine wpAny_loadPart_at hx ?_ | (with_reducible refine wpAny_isSubtype_exc hk ?_; rw [hs]) | wp_step)
  show wpAny _ _ (typeLookup (.ref C) _) _ _ _
  refine j1.at ?_
  refine wpAny_holding (wpAny_bind (j2.at ?_))
  refine wpAny_bind (wpAny_call (codeAny_mono hq fun r s' z => ?_))
  rcases r with e | (v | _ | _ | _) <;> first | exact z | exact z.elim | skip
  obtain ⟨rfl, z⟩ := z
  first
    | exact wpAny_pure (wpAny_pure z)
    | (wp_walk; exact z)
theorem xk_call (F : ExcBaseFacts B newId initId bmB) (hT : ∀ X : String, bm.contains (.type X) = bmB.contains (.type X)) {kw : List (Str × Value)} {fI : Addr}
    (hC : h.get? C = some (excClassObj nm q C N bs bm hdct sn sub ab col dd k0 k1 k2 k3 k5 newId))
    (hi : W.Looks (model prog w) h (typeLookup (.ref C) "__init__") (some (.ref fI))) (hb : ∀ self, W.Looks (model prog w) h (bindSpecial (.ref fI) self) (.ref fI, [self]))
    (hq : codeAny (model prog w) (A.under (.builtin "type.__call__" ⟨[.ref C], kw⟩)) (.call (.ref fI) ⟨[.ref (h.objs.size + 1)], kw⟩) (W.InitBack (h.objs.size + 1) R)
      ⟨(h.push (W.kdv_tup [])).push (excO C h.objs.size), g, d, t, os⟩) :
    codeAny (model prog w) A (.call (.ref C) ⟨[], kw⟩) R ⟨h, g, d, t, os⟩ := by
  have f1 := tc_lookup
  have f2 := tc_bind (.ref C)
  have ht : (⟨h, g, d, t, os⟩ : Shared).TypeIs (.ref C) "type" := ⟨_, hC, rfl⟩
  refine codeAny_of_tree ?_
  show wpAny _ _ (callAny (.ref C) _) _ _ _
  repeat (any_goals (first | assumption | with_reducible refine wpAny_loadPart_at hC ?_ | wp_step))
  refine ⟨rfl, ?_⟩
  refine codeAny_call_builtin_at (Code.quiet_builtin _ (by decide +kernel)) entry_typeCall (wpAny_check_type_call_sub hC (xk_type F hT hC hi hb ?_))
  refine codeAny_mono hq fun r s' z => ?_
  rcases r with e | (v | _ | _ | _) <;> exact z
end
end XKC
end PySem
set_option Elab.async false
set_option linter.all false
set_option maxRecDepth 100000
set_option maxHeartbeats 2000000
/-! CL14: own exceptions raised. -/
namespace CL
open PySem PySem.Spec PyProof.Rows L2
variable [TheK]
variable {L : Tl} {T : Pm} {X : Cx} {W : WX}

/-- the own __init__ of an exception class with the attributes fs: what it does -/
def spX (C : Addr) (fs : List Str) : Sp := fun vs H Q E => ∃ a ws, vs = .ref a :: ws ∧ ws.length = fs.length ∧ H a = some (exo a C none) ∧
  ∀ dx H', H dx = none → dx ≠ a → H' a = some (exo a C (some dx)) → H' dx = some (exd dx (fs.zip ws).reverse) → (∀ b, b ≠ a → b ≠ dx → H' b = H b) → Q .non H'
structure XInit (P : Program) (w : World) (K : PySem.W.Frag) (mg : Str → Option Value) (base : Heap) (k : Nat) (C : Addr) (fs : List Str) : Prop where
  oex : OexC K C
  ex : ∃ fI fd, PySem.W.findIn K (.ref C) "__init__" = some (some (.ref fI)) ∧ PySem.W.typeIn K (.ref fI) = some (.type "function") ∧ FnOk P w K mg base (L2.CX P w) k fI fd (("self" : Str) :: fs) (spX C fs) ∧
    ∀ (s : Shared) (us ws : List Value), K.In s.heap → us.length = 1 → ws.length = fs.length → BindsTo s fd ⟨us, fs.zip ws⟩ ((("self" : Str) :: fs).zip (us ++ ws))
section
variable {o e : Expr} {es : List Expr} {to te : TE} {ta : TA} {f x : Str} {p p' p1 p2 pos : Pos} {mc : Value} {CB : Addr}
/-- B.__init__(self, ..), B an own class over ValueError without own __init__ -/
theorem pe_oinit {pl : Sem Bool} (hg : Gl X x) (hm : X.mg x = some (.ref CB)) (r : ClX.CRead X.K CB mc) (hv : PySem.W.findCls X.K (.ref CB) mc "__init__" = some (.val (.builtin "ValueError.__init__"))) (ha : PA X (e :: es) ta)
    (hdb : (x == ("__debug__" : Str)) = false := by decide)
    (hc : eval (.Call (.Attribute (.Name x p1) "__init__" p2) (e :: es) [] pos) X.env = (do
      let ov ← eval (.Name x p1) X.env
      standAt p2.atName
      let (f, first) ← holding [ov] (getMethod ov "__init__" pl)
      callWith pos f first (backTo pos (starEach (e :: es) X.env)) (backToKw pos (keywordEach [] X.env))) := by rfl)
    (he : starEach (e :: es) X.env = (false, eval e X.env) :: starEach es X.env := by rfl) (hpl : (backTo pos (starEach es X.env)).any (·.1) = false := by rfl) :
    PE X (.Call (.Attribute (.Name x p1) "__init__" p2) (e :: es) [] pos) (tVeI X.K ta) := by
  refine ⟨fun pins s σ H Q I h => ?_⟩
  refine PySem.W.methodCall_KW (ld_glob I hg hm ?_ hdb) hc
  refine PySem.W.method_cls I.kIn r.ga (PySem.W.cls_value I.kIn r.rd hv (by decide +kernel) ?_)
  refine PyProof.Rows.callWith_method1 (thn (ha.run pos pins _ σ H _ (I.tok _) h) fun us s1 ⟨vs, H1, I1, r1, a, C, ws, ev, hl, T, ea, q⟩ => ?_) he hpl
  subst ev
  cases r1 with
  | @cons _ u0 _ ur ra rw' =>
    obtain rfl : u0 = Value.ref a := ra
    have hlen : ur.length ≤ sizeLine := by
      rw [← Paired.length rw', sizeLine_eq]
      omega
    exact oinit_ok T I1 ea hlen fun s' J => ⟨.non, H1, J, rfl, q⟩
end
section
variable {P : Program} {w : World} {K : PySem.W.Frag} {mg : Str → Option Value} {base : Heap} {C : Addr} {f1 f2 m : Str} {x qual : Str} {st : Stmt} {fI : Addr} {fd : FuncData} {k : Nat}
theorem upd_swap {H : Hp} {a b : Addr} {o u : HO} (h : a ≠ b) : upd (upd H a o) b u = upd (upd H b u) a o := by
  funext c
  by_cases h1 : c = b
  · subst h1; rw [upd_same, upd_ne (Ne.symm h), upd_same]
  · rw [upd_ne h1]
    by_cases h2 : c = a
    · subst h2; rw [upd_same, upd_same]
    · rw [upd_ne h2, upd_ne h2, upd_ne h1]
theorem xinit1 (F : Fun K x qual st fI fd) (S : FnScope [("self" : Str), f1] [("self" : Str), f1] (defScope st)) (oex : OexC K C) (iC : PySem.W.findIn K (.ref C) "__init__" = some (some (.ref fI))) (tI : PySem.W.typeIn K (.ref fI) = some (.type "function")) (hf : PySem.W.findIn K (.ref C) f1 = some none)
    (hbind : ∀ (s : Shared) (us ws : List Value), K.In s.heap → us.length = 1 → ws.length = 1 → BindsTo s fd ⟨us, [f1].zip ws⟩ ([("self" : Str), f1].zip (us ++ ws)))
    (hb : ∀ (cdv : Value) (A : Around) (outer : List Env) (s : Shared) (H : Hp) (E : XK), PSs (cxOf (L2.CX P w) P w K mg base [("self" : Str), f1] qual (defScope st) fI cdv A outer s H E) (defBody st)
      (tSeq (tDrop (tVeI K (tCons (tVar 0) (tCons (tC (.str m)) tNil)))) (tOst K f1 (tVar 0) (tVar 1)))) : XInit P w K mg base (k + 1) C [f1] := by
  refine ⟨oex, fI, fd, iC, tI, F.okX S (fun vs H Q E h => ?_) (fun cdv A outer s H vs Q E hr h => ⟨_, hb cdv A outer s H E, ?_⟩), hbind⟩
  · obtain ⟨a, ws, rfl, hl, _⟩ := h
    simpa using hl
  · obtain ⟨a, ws, rfl, hl, ha, q⟩ := h
    match ws, hl with
    | [y], _ =>
      refine ⟨.ref a, rfl, a, C, [.str m], rfl, by simp, oex, ha, y, rfl, .ref a, rfl, a, C, rfl, oex, hf, .inl ⟨ha, fun dx hd hn => ?_⟩⟩
      exact q dx _ hd hn upd_same (by rw [upd_ne hn, upd_same]; rfl) fun b h1 h2 => by rw [upd_ne h1, upd_ne h2]
theorem xinit2 (F : Fun K x qual st fI fd) (S : FnScope [("self" : Str), f1, f2] [("self" : Str), f1, f2] (defScope st)) (oex : OexC K C) (iC : PySem.W.findIn K (.ref C) "__init__" = some (some (.ref fI))) (tI : PySem.W.typeIn K (.ref fI) = some (.type "function")) (hf : PySem.W.findIn K (.ref C) f1 = some none) (hf2 : PySem.W.findIn K (.ref C) f2 = some none)
    (hbind : ∀ (s : Shared) (us ws : List Value), K.In s.heap → us.length = 1 → ws.length = 2 → BindsTo s fd ⟨us, [f1, f2].zip ws⟩ ([("self" : Str), f1, f2].zip (us ++ ws)))
    (hb : ∀ (cdv : Value) (A : Around) (outer : List Env) (s : Shared) (H : Hp) (E : XK), PSs (cxOf (L2.CX P w) P w K mg base [("self" : Str), f1, f2] qual (defScope st) fI cdv A outer s H E) (defBody st)
      (tSeq (tDrop (tVeI K (tCons (tVar 0) (tCons (tC (.str m)) tNil)))) (tSeq (tOst K f1 (tVar 0) (tVar 1)) (tOst K f2 (tVar 0) (tVar 2))))) : XInit P w K mg base (k + 1) C [f1, f2] := by
  refine ⟨oex, fI, fd, iC, tI, F.okX S (fun vs H Q E h => ?_) (fun cdv A outer s H vs Q E hr h => ⟨_, hb cdv A outer s H E, ?_⟩), hbind⟩
  · obtain ⟨a, ws, rfl, hl, _⟩ := h
    simpa using hl
  · obtain ⟨a, ws, rfl, hl, ha, q⟩ := h
    match ws, hl with
    | [y, z], _ =>
      refine ⟨.ref a, rfl, a, C, [.str m], rfl, by simp, oex, ha, y, rfl, .ref a, rfl, a, C, rfl, oex, hf, .inl ⟨ha, fun dx hd hn => ?_⟩⟩
      refine ⟨z, rfl, .ref a, rfl, a, C, rfl, oex, hf2, .inr ⟨dx, [(f1, y)], upd_same, by rw [upd_ne hn, upd_same], by simp, ?_⟩⟩
      refine q dx _ hd hn (by rw [upd_ne (Ne.symm hn), upd_same]) (by rw [upd_same]; rfl) fun b h1 h2 => ?_
      rw [upd_ne h2, upd_ne h1, upd_ne h2]
end
/-- C(k = v, ..): the exception comes -/
def tMkX (C : Addr) (fs : List Str) (tk : TA) : L2.St → Hp → XK → Prop := fun σ H Q => tk σ H fun zs H1 => zs.length = fs.length ∧ ∀ d, H1 d = none → Q (.ref C) (some d) (upd H1 d (.xd (fs.zip zs).reverse))
section
variable {x : Str} {C : Addr} {fs : List Str} {k : Nat} {kws : List Keyword} {tk : TA} {p pos : Pos}
theorem pmk_kw (N : XInit X.prog X.w X.K X.mg X.base k C fs) (hr : Room (k + 1) X.A) (hg : Gl X x) (hm : X.mg x = some (.ref C)) (hkw : PK X kws tk)
    (hall : (backToKw pos (keywordEach kws X.env)).all (·.1.isSome) = true := by rfl) (hks : (backToKw pos (keywordEach kws X.env)).filterMap (·.1) = fs := by rfl) (hdb : (x == ("__debug__" : Str)) = false := by decide)
    (hpl : ((backTo pos (starEach [] X.env)).any (·.1) || (backToKw pos (keywordEach kws X.env)).any (·.1.isNone)) = false := by rfl) :
    PMk X (.Call (.Name x p) [] kws pos) (tMkX C fs tk) := by
  intro pins s σ H Q I h
  obtain ⟨oex, fI, fd, iC, tI, F1, hbind⟩ := N
  obtain ⟨nm, q, N, bs, bm, sn, sub, ab, col, dd, k0, k1, k2, k3, k5, hC, hbm⟩ := oex.cls
  refine wpAny_Call_Name_kw (ld_glob I hg hm ?_ hdb)
  refine PySem.W.callWith_KW0 (h₀ := X.base) I.ok.mod.kin oex.kC hall (thn (hkw.run pos pins s σ H _ I h) fun ws s1 ⟨zs, H1, I1, rz, lz, q1⟩ => ⟨I1.kIn, ?_⟩) hpl
  rw [hks]
  obtain ⟨hp, g, dr, tk, os⟩ := s1
  have hsz : hp.objs.size ≤ hp.objs.size + 1 := Nat.le_succ _
  have hn : H1 (hp.objs.size + 1) = none := I1.hok.fresh hsz
  have kk : ∀ b o, hp.get? b = some o → ((hp.push (PySem.W.kdv_tup [])).push (PySem.HandSPX.excO C hp.objs.size)).get? b = some o := fun b o e => Heap.get?_push_of_some _ (Heap.get?_push_of_some _ e)
  have hget : ((hp.push (PySem.W.kdv_tup [])).push (PySem.HandSPX.excO C hp.objs.size)).get? (hp.objs.size + 1) = some (PySem.HandSPX.excO C hp.objs.size) := by heap_get
  have I2 : Inv X pins σ (upd H1 (hp.objs.size + 1) (exo (hp.objs.size + 1) C none)) ⟨(hp.push (PySem.W.kdv_tup [])).push (PySem.HandSPX.excO C hp.objs.size), g, dr, tk, os⟩ :=
    I1.laid (t' := tk) (a := hp.objs.size + 1) (o := exo (hp.objs.size + 1) C none) (h' := (hp.push (PySem.W.kdv_tup [])).push (PySem.HandSPX.excO C hp.objs.size)) kk hsz (exo_ok hget)
  have r2 : Vals (V.ref (hp.objs.size + 1) :: zs) (Value.ref (hp.objs.size + 1) :: ws) := .cons rfl rz
  have hq : spX C fs (V.ref (hp.objs.size + 1) :: zs) (upd H1 (hp.objs.size + 1) (exo (hp.objs.size + 1) C none)) (fun v H2 => v = .non ∧ ∃ d, H1 d = none ∧ d ≠ hp.objs.size + 1 ∧ H2 (hp.objs.size + 1) = some (exo (hp.objs.size + 1) C (some d)) ∧ H2 d = some (exd d (fs.zip zs).reverse) ∧ ∀ b, b ≠ hp.objs.size + 1 → b ≠ d → H2 b = H1 b) (fun _ _ _ => False) := by
    refine ⟨_, zs, rfl, lz, upd_same, fun dx H' hd hdn e1 e2 e3 => ⟨rfl, dx, ?_, hdn, e1, e2, fun b h1 h2 => ?_⟩⟩
    · rw [upd_ne hdn] at hd; exact hd
    · rw [e3 b h1 h2, upd_ne h1]
  refine wpAny_call (PySem.XKC.xk_call F.excBase_ValueError (fun Y => PySem.HandSPX.refsVE_contains Y bm hbm) (I1.kIn _ _ hC) (PySem.W.looks_findIn I1.kIn iC) (fun self => PySem.W.bind_fn I1.kIn self tI)
    (codeAny_mono (F1.run _ X.stack _ _ ⟨[Value.ref (hp.objs.size + 1)], fs.zip ws⟩ (Value.ref (hp.objs.size + 1) :: ws) _ _ (fun _ _ _ => False) (hr.make C [] (fs.zip ws)) (I2.env0.make C [] (fs.zip ws)) (hbind _ [Value.ref (hp.objs.size + 1)] ws I2.kIn rfl (rz.length.symm.trans lz)) r2 hq) fun r s' hq' => ?_))
  cases r with
  | error er =>
    obtain ⟨_, _, _, _, _, _, _, _, _, _, _, _, z⟩ := (hq' : L2.CX X.prog X.w X.stack _ _ _ er s')
    exact z.elim
  | ok fl =>
    cases fl with
    | ret u =>
      obtain ⟨v, H2, os2, bare2, un2, hok2, rv, ev, d, hd1, hda, ea, ed, same⟩ := hq'
      subst ev
      obtain ⟨h2, g2, d2, t2, os'⟩ := s'
      refine ⟨rv, mk_end (raises_own oex.exC oex.tyC) I1 hsz kk un2 hok2 os2 bare2 ea ed hd1 ?_⟩
      have eq : upd (del H2 (hp.objs.size + 1)) d (.xd (fs.zip zs).reverse) = upd H1 d (.xd (fs.zip zs).reverse) := by
        funext b
        by_cases h1 : b = d
        · subst h1; rw [upd_same, upd_same]
        · rw [upd_ne h1, upd_ne h1]
          by_cases h2 : b = hp.objs.size + 1
          · subst h2; rw [del_same, hn]
          · rw [del_ne h2, same b h2 h1]
      rw [eq]
      exact q1 d hd1
    | next => exact False.elim hq'
    | brk => exact False.elim hq'
    | cont => exact False.elim hq'
end
/-- raise C(f = e, ..) -/
def sRaiseK (C : Addr) (fs : List Str) (ca : CA) : CS := fun z S => oDo (ca z S) z fun xs S' => if xs.length = fs.length then .exc ⟨C, fs.reverse, xs.reverse⟩ z S' else .bad
theorem zip_rev {α β : Type} : ∀ {xs : List α} {ys : List β}, xs.length = ys.length → (xs.zip ys).reverse = xs.reverse.zip ys.reverse := fun {xs ys} h => by
  rw [List.zip_eq_zipWith, List.zip_eq_zipWith, List.reverse_zipWith h]
theorem Rps.rev {I : List Addr} {B : Hp} : ∀ {vs : List V} {xs : List D}, Rps I B vs xs → Rps I B vs.reverse xs.reverse
  | [], [], _ => trivial
  | v :: vs, x :: xs, h => by
    rw [List.reverse_cons, List.reverse_cons]
    exact (Rps.rev h.2).append ⟨h.1, trivial⟩
  | [], _ :: _, h => h.elim
  | _ :: _, [], h => h.elim
section
variable {I0 : List Addr} {B0 H0 : Hp} {x : Str} {C : Addr} {fs : List Str} {k : Nat} {kws : List Keyword} {ca : CA} {p pos pos' : Pos} {e : Expr} {ce : CE} {kpos : Pos} {nm : Option Str}
theorem kw_nil : PK X [] (rdA T W aNil) := ⟨fun pos pins s σ H Q I ⟨H0, J, B, z, S, a, h⟩ => pk_nil.run pos pins s σ H Q I (Fin.here (x := ([] : List D)) (v := ([] : List V)) h a.st trivial)⟩
theorem kw_cons (ha : PE X e (rdE T W ce)) (hr : PK X kws (rdA T W ca)) : PK X (⟨nm, e, kpos⟩ :: kws) (rdA T W (aCons ce ca)) := by
  refine ⟨fun pos pins s σ H Q I h => (pk_cons ha hr).run pos pins s σ H Q I ?_⟩
  obtain ⟨H0, J, B, z, S, a, h⟩ := h
  refine bind (rep := Rp) (rep2 := Rps) (Q := Q) a h fun J B' H' S' v x g a1 r1 f1 => ?_
  refine bind (rep := Rps) (rep2 := Rps) (Q := Q) a1 f1 fun J2 B2 H2 S2 vs xs g2 a2 r2 f2 => ?_
  exact Fin.here (v := v :: vs) f2 a2.st ⟨r1.gr g2, r2⟩
theorem s_raiseK (hc : X.calm = true) (tk : Takes X W) (N : XInit X.prog X.w X.K X.mg X.base k C fs) (hr : Room (k + 1) X.A) (hg : Gl X x) (hm : X.mg x = some (.ref C)) (hkw : PK X kws (rdA T W ca))
    (hall : (backToKw pos (keywordEach kws X.env)).all (·.1.isSome) = true := by rfl) (hks : (backToKw pos (keywordEach kws X.env)).filterMap (·.1) = fs := by rfl) (hdb : (x == ("__debug__" : Str)) = false := by decide)
    (hpl : ((backTo pos (starEach [] X.env)).any (·.1) || (backToKw pos (keywordEach kws X.env)).any (·.1.isNone)) = false := by rfl) :
    PS X (.Raise (some (.Call (.Name x p) [] kws pos)) none pos') (rdS T I0 B0 H0 W (sRaiseK C fs ca)) := by
  refine ps_imp (ps_raise hc tk (pmk_kw N hr hg hm hkw hall hks hdb hpl)) ?_
  rintro D s H ⟨I, B, z, S, g, a, f⟩
  refine sdo (rep := Rps) g a f fun J B' H' S' v x g0 g1 a1 r1 f1 => ?_
  by_cases hl : x.length = fs.length
  · rw [if_pos hl] at f1
    refine ⟨by rw [r1.len]; exact hl, fun d hd => ?_⟩
    have nt : ∀ ps, (HO.xd (fs.zip v).reverse) ≠ .tbl ps := fun ps z => by cases z
    have gn := gr_new (I := J) (o := HO.xd (fs.zip v).reverse) hd a1.st.sub
    have a2 := a1.gr gn (a1.st.new hd nt)
    have hv : v.length = fs.length := by rw [r1.len]; exact hl
    refine f1 J _ _ s (.ref C) (some d) (g0.trans gn) gn.gb a2 ⟨rfl, .inr ⟨d, v.reverse, rfl, ?_, ?_, ?_⟩⟩
    · rw [upd_same]
      show some (HO.xd _) = some (HO.xd _)
      rw [zip_rev hv.symm]
    · simp [hv]
    · exact Rps.rev (r1.new a1.st hd)
  · rw [if_neg hl] at f1; exact f1.elim
/-- raise C('message'), C without own __init__ -/
def sRaiseM (C : Addr) : CS := fun z S => .exc ⟨C, [], []⟩ z S
theorem s_raiseM {m : Str} {j : Nat} {p2 : Pos} (hc : X.calm = true) (tk : Takes X W) (q : PySem.W.excIn X.K C PySem.HandSPX.veTail "ValueError.__new__" = true) (kC : PySem.W.keepIn X.K (.ref C) = true) (r : Raises X (.ref C)) (hg : Gl X x) (gC : X.mg x = some (.ref C))
    (hdb : (x == ("__debug__" : Str)) = false := by decide) : PS X (.Raise (some (.Call (.Name x p) [.Constant (.str m) j p2] [] pos)) none pos') (rdS T I0 B0 H0 W (sRaiseM C)) := by
  refine ps_imp (ps_raise hc tk (pmk_own F.excBase_ValueError q gC kC r hg hdb)) ?_
  rintro D s H ⟨I, B, z, S, g, a, f⟩
  exact f I B H s (.ref C) none g GB.rfl a ⟨rfl, .inl ⟨rfl, rfl⟩⟩
end
end CL
set_option Elab.async false
set_option linter.all false
set_option maxRecDepth 100000
set_option maxHeartbeats 2000000
/-! CL15: try, except; the exception in hand. -/
namespace CL
open PySem PySem.Spec PyProof.Rows L2
variable [TheK]
variable {L : Tl} {F : Option (Addr × List Addr × Hp × Hp)} {T : Pm} {X : Cx} {W : WX}

def isX : SV → Bool
  | .x _ => true
  | _ => false
def noX (z : Sl) : Bool := z.all fun v => !isX v
/-- the suite's end: the name goes -/
def unx (i : Nat) : O → O
  | .nx z S => if noX (z.set i .u) then .nx (z.set i .u) S else .bad
  | .bk z S => if noX (z.set i .u) then .bk (z.set i .u) S else .bad
  | .ct z S => if noX (z.set i .u) then .ct (z.set i .u) S else .bad
  | .rt d S => .rt d S
  | .exc _ _ _ => .bad
  | .bad => .bad
def sTryAs (i : Nat) (exm : Addr → Option Bool) (cb cs : CS) : CS := fun z S => match cb z S with
  | .exc x z' S' => match exm x.cls with
    | some true => unx i (cs (z'.set i (.x x)) S')
    | some false => .exc x z' S'
    | none => .bad
  | o => o
section
variable {H0 : Hp} {I : List Addr} {B H : Hp} {s : L2.St} {z : Sl} {S : Store} {i : Nat}
theorem noX_at {z : Sl} (h : noX z = true) {i : Nat} {e : Exn} (q : z[i]? = some (.x e)) : False := by
  have := List.all_eq_true.mp h _ (List.mem_of_getElem? q)
  cases this
theorem At.swap {T' : Pm} (a : At T H0 I B H s z S) (ht : T'.tabs = T.tabs) (hfn : T'.fn = T.fn) (h : ∀ (i : Nat) (e : Exn), z[i]? ≠ some (SV.x e)) : At T' H0 I B H s z S := by
  refine ⟨⟨a.sl.len, fun i o y h1 h2 => ?_, a.sl.ne⟩, by rw [ht]; exact a.st⟩
  have q := a.sl.ok i o y h1 h2
  cases y with
  | x e => exact (h i e h2).elim
  | f =>
    obtain ⟨b, I1, B1, H1, e1, e2⟩ := q
    exact ⟨b, I1, B1, H1, by rw [hfn]; exact e1, e2⟩
  | u => exact q
  | d x => exact q
  | l xs => exact q
  | m ks xs => exact q
/-- the exception is stored -/
theorem At.setX {a : Addr} {c : Value} {d : Option Addr} {e : Exn} (h : At ⟨L, none, F⟩ H0 I B H s z S) (i : Nat) (r : RpX I B c d e) : At ⟨L, some (a, c, d), F⟩ H0 I B H (s.set i (some (.ref a))) (z.set i (.x e)) S := by
  have h' : At ⟨L, some (a, c, d), F⟩ H0 I B H s z S := h.swap rfl rfl fun j e q => by
    obtain ⟨o, _, p⟩ := h.sl.get q
    obtain ⟨_, _, z, _⟩ := p
    cases z
  refine ⟨⟨by simp [h'.sl.len], fun j o y h1 h2 => ?_, fun j k b y w h1 h2 h3 h4 o1 o2 => ?_⟩, h'.st⟩
  · rw [List.getElem?_set] at h1 h2
    by_cases q : i = j
    · subst q
      rw [if_pos rfl] at h1 h2
      split at h1
      · split at h2
        · cases h1; cases h2
          exact ⟨a, d, by rw [r.1], rfl, by rw [← r.1]; exact r⟩
        · cases h2
      · cases h1
    · rw [if_neg q] at h1 h2
      exact h'.sl.ok j o y h1 h2
  · have q : ∀ {k : Nat} {w : SV}, (z.set i (.x e))[k]? = some w → isOwn w = true → k ≠ i := fun {k w} e o q => by
      subst q
      rw [List.getElem?_set_self'] at e
      cases t : z[k]? with
      | none => rw [t] at e; cases e
      | some _ => rw [t] at e; cases e; cases o
    have n1 := q h3 o1
    have n2 := q h4 o2
    rw [List.getElem?_set_ne (Ne.symm n1)] at h1 h3
    rw [List.getElem?_set_ne (Ne.symm n2)] at h2 h4
    exact h'.sl.ne j k b y w h1 h2 h3 h4 o1 o2
end
section
variable {x n : Str} {c : Value} {i : Nat} {body suite : List Stmt} {b₀ : Stmt} {np pos pos' : Pos} {exm : Addr → Option Bool} {cb cs : CS} {I0 : List Addr} {B0 H0 : Hp}
theorem s_tryAs (hs : X.stack = X.env :: X.outer) (hf : X.env.frame = some X.env.locals) (hN : X.N.Nodup) (hi : X.N[i]? = some n) (hln : X.env.kindOf n = some .local) (hc : Names X x c) (tk : Takes X W) (hexm : ∀ D b, exm D = some b → PySem.W.exmOne X.K (.ref D) c = some b)
    (hb : ∀ (W : WX) (pn : List (Addr × Obj)) (xe : Value → Shared → Prop), Takes (X.tr pn xe) W → PassesOwn (model X.prog X.w) X.A X.env xe → PSs (X.tr pn xe) body (rdS ⟨L, none, F⟩ I0 B0 H0 W cb))
    (hsu : ∀ (a : Addr) (oe : Obj) (cls : Value) (d : Option Addr) (pn : List (Addr × Obj)), Zc cls d oe → (∃ vs, oe.data = .fields vs) → PSs (X.suite a ((a, oe) :: pn)) (b₀ :: suite) (rdS ⟨L, some (a, cls, d), F⟩ I0 B0 H0 wNo cs)) :
    PS X (.Try body [.ExceptHandler (some (.Name x np)) (some n) (b₀ :: suite) pos'] [] [] pos) (rdS ⟨L, none, F⟩ I0 B0 H0 W (sTryAs i exm cb cs)) := by
  refine ps_imp (ps_try_as (tb := fun W => rdS ⟨L, none, F⟩ I0 B0 H0 W cb) (ts := fun a cls d => rdS ⟨L, some (a, cls, d), F⟩ I0 B0 H0 wNo cs) hs hf hN hi hln hc tk hb hsu) ?_
  rintro D s H ⟨I, B, z, S, g, a, f⟩
  refine ⟨I, B, z, S, g, a, ?_⟩
  unfold sTryAs at f
  cases q : cb z S with
  | nx z' S' => rw [q] at f; exact f
  | bk z' S' => rw [q] at f; exact f
  | ct z' S' => rw [q] at f; exact f
  | rt d S' => rw [q] at f; exact f
  | bad => rw [q] at f; exact f
  | exc x z' S' =>
    rw [q] at f
    dsimp only at f
    intro J B' H' s' c' dd g' gb a' rx
    cases q1 : exm x.cls with
    | none => rw [q1] at f; exact f.elim
    | some b =>
      rw [q1] at f
      refine ⟨b, by rw [rx.1]; exact hexm _ _ q1, fun hb a1 _ => ?_, fun hb => ?_⟩
      · subst hb
        dsimp only at f
        refine ⟨J, B', z'.set i (.x x), S', g', a'.setX (a := a1) i rx, ?_⟩
        have back : ∀ {J2 : List Addr} {B2 H2 : Hp} {s2 : L2.St} {z2 : Sl} {S2 : Store}, noX (z2.set i .u) = true → At ⟨L, some (a1, c', dd), F⟩ H0 J2 B2 H2 s2 z2 S2 → At ⟨L, none, F⟩ H0 J2 B2 H2 (s2.set i none) (z2.set i .u) S2 := fun {J2 B2 H2 s2 z2 S2} hx a2 =>
          (a2.setU i none).swap rfl rfl fun j e q => noX_at hx q
        cases q2 : cs (z'.set i (.x x)) S' with
        | nx z2 S2 =>
          rw [q2] at f
          simp only [unx] at f
          split at f
          · rename_i hx
            exact fun J2 B2 H2 s2 g2 gb2 a2 => f J2 B2 H2 _ g2 (gb.trans gb2) (back hx a2)
          · exact f.elim
        | bk z2 S2 =>
          rw [q2] at f
          simp only [unx] at f
          split at f
          · rename_i hx
            exact fun J2 B2 H2 s2 g2 gb2 a2 => f J2 B2 H2 _ g2 (gb.trans gb2) (back hx a2)
          · exact f.elim
        | ct z2 S2 =>
          rw [q2] at f
          simp only [unx] at f
          split at f
          · rename_i hx
            exact fun J2 B2 H2 s2 g2 gb2 a2 => f J2 B2 H2 _ g2 (gb.trans gb2) (back hx a2)
          · exact f.elim
        | rt d S2 =>
          rw [q2] at f
          exact fun J2 B2 H2 v g2 gb2 st r => f J2 B2 H2 v g2 (gb.trans gb2) st r
        | exc _ _ _ => rw [q2] at f; exact f.elim
        | bad => rw [q2] at f; exact f.elim
      · subst hb
        exact f J B' H' s' c' dd g' gb a' rx
end
/-! ### the exception in hand: isinstance, attributes -/
def cIsE (i : Nat) (kit : Addr → Option Bool) : CE := fun z S => match z[i]? with
  | some (.x e) => match kit e.cls with
    | some b => .ok (.bl b) S
    | none => .bad
  | _ => .bad
def cXf (C : Addr) (f : Str) (i : Nat) : CE := fun z S => match z[i]? with
  | some (.x e) => if e.cls = C then match (e.ns.zip e.xs).lookup f with
    | some v => .ok v S
    | none => .bad else .bad
  | _ => .bad
def rIsX (K : PySem.W.Frag) (a : Addr) (cls : Value) (d : Option Addr) : List V → Hp → VK → Prop := fun xs H Q => ∃ (c : V) (cv : Value) (b : Bool) (D : Addr), xs = [.ref a, c] ∧ (∀ u, RelV c u → u = cv) ∧ cls = .ref D ∧ ExcC K D ∧
  (∀ dd, d = some dd → ∃ fs, H dd = some (.xd fs)) ∧ PySem.W.kitOne K (.ref D) cv = some b ∧ Q (.bl b) H
theorem call_isX {a : Addr} {cls : Value} {d : Option Addr} {oe : Obj} {pn : List (Addr × Obj)} (hz : Zc cls d oe) (hf : ∃ vs, oe.data = .fields vs) : CallR (X.suite a ((a, oe) :: pn)) (.builtin "isinstance") (rIsX X.K a cls d) := by
  intro pins s σ H xs us Q I r h
  obtain ⟨c, cv, b, D, rfl, hcv, rfl, C, hd, e, q⟩ := h
  cases r with
  | cons rx rr =>
    cases rr with
    | cons rt rr =>
      cases rr
      cases rx
      have ec := hcv _ rt
      subst ec
      obtain ⟨hget, _⟩ := I.pin (a, oe) (List.mem_append.mpr (.inl List.mem_cons_self))
      obtain ⟨vs, hv⟩ := hf
      have J : ∃ od, PySem.W.InstAt s.heap a oe D od := by
        obtain ⟨oc, od, oda, osl⟩ := oe
        obtain ⟨h1, h2⟩ := hz
        dsimp only at h1 h2 hv
        subst h1 h2 hv
        cases od with
        | none => exact ⟨none, hget, rfl, rfl, trivial⟩
        | some dd =>
          obtain ⟨fs, hx⟩ := hd dd rfl
          obtain ⟨mA, ⟨o, es, ep, ho, _⟩, _⟩ := (show ObjOk X.prog X.w H s.heap dd (.xd fs) from I.hok dd _ hx)
          exact ⟨some o, hget, rfl, rfl, ho⟩
      obtain ⟨od, J⟩ := J
      have hcl : (PySem.W.clsIn X.K D).isSome = true := by
        obtain ⟨cd, hc, _⟩ := PySem.W.any_some C.hd
        rw [hc]; rfl
      exact PySem.W.kia_one (PySem.W.kitx_exc hcl C.hg C.hk C.hs C.ha C.hn C.ht C.hm) I.kIn J e (fun z => nomatch z) fun tk => ⟨.bl b, H, I.kept (t' := tk) fun _ _ z => z, rfl, q⟩
section
variable {a : Addr} {cls : Value} {d : Option Addr} {oe : Obj} {pn : List (Addr × Obj)} {i : Nat} {n x : Str} {p p1 p2 pos : Pos} {kit : Addr → Option Bool}
theorem xslot {H0 : Hp} {I : List Addr} {B H : Hp} {s : L2.St} {z : Sl} {S : Store} {e : Exn} (h : At ⟨L, some (a, cls, d), F⟩ H0 I B H s z S) (q : z[i]? = some (.x e)) : s[i]? = some (some (.ref a)) ∧ cls = .ref e.cls ∧ RpX I B (.ref e.cls) d e := by
  obtain ⟨o, h1, a', d', h2, h3, h4⟩ := h.sl.get q
  have h2' : some (a, cls, d) = some (a', Value.ref e.cls, d') := h2
  cases h2'
  subst h3
  exact ⟨h1, rfl, h4⟩
/-- isinstance(e, C), C an own class or a built-in type -/
theorem e_isE {ec : Expr} {cv : Value} {v : V} (hz : Zc cls d oe) (hf : ∃ vs, oe.data = .fields vs) (hN : X.N[i]? = some n) (hv : Vis X.env.scope n) (hec : PE (X.suite a ((a, oe) :: pn)) ec (tC v)) (hcv : ∀ u, RelV v u → u = cv)
    (hk : ∀ D b, kit D = some b → ExcC X.K D ∧ PySem.W.kitOne X.K (.ref D) cv = some b) (hg : Gl X "isinstance") (hm : X.mg "isinstance" = none) (hbt : bootBuiltins "isinstance" = some (.builtin "isinstance"))
    (hd : (n == ("__debug__" : Str)) = false := by decide) (hcd : (n == ("__classdict__" : Str)) = false := by decide)
    (he : starEach (.Name n p1 :: [ec]) X.env = (false, eval (.Name n p1) X.env) :: starEach [ec] X.env := by rfl) (he2 : starEach [ec] X.env = (false, eval ec X.env) :: starEach [] X.env := by rfl) (hpl : (backTo pos (starEach [ec] X.env)).any (·.1) = false := by rfl) :
    PE (X.suite a ((a, oe) :: pn)) (.Call (.Name "isinstance" p) [.Name n p1, ec] [] pos) (rdE ⟨L, some (a, cls, d), F⟩ wNo (cIsE i kit)) := by
  refine pe_imp (pe_callB (X := X.suite a ((a, oe) :: pn)) (call_isX (X := X) hz hf) hg hm hbt (pa_cons (pe_var (i := i) hN hv hd hcd) (pa_cons hec pa_nil he2) he) (by decide) (by decide) he hpl) ?_
  rintro s H Q ⟨H0, I, B, z, S, at_, f⟩
  unfold cIsE at f
  cases q : z[i]? with
  | none => rw [q] at f; exact f.elim
  | some y =>
    cases y with
    | x e =>
      rw [q] at f
      dsimp only at f
      obtain ⟨h1, h2, h3⟩ := xslot at_ q
      cases q2 : kit e.cls with
      | none => rw [q2] at f; exact f.elim
      | some b =>
        rw [q2] at f
        obtain ⟨k1, k2⟩ := hk _ _ q2
        refine ⟨.ref a, h1, v, cv, b, e.cls, rfl, hcv, h2, k1, fun dd hdd => ?_, k2, f.here at_.st rfl⟩
        rcases h3.2 with ⟨_, z⟩ | ⟨a', vs, e1, e2, _⟩
        · rw [z] at hdd; cases hdd
        · rw [e1] at hdd; cases hdd
          exact ⟨_, at_.st.sub _ _ e2⟩
    | u => rw [q] at f; exact f.elim
    | f => rw [q] at f; exact f.elim
    | d _ => rw [q] at f; exact f.elim
    | l _ => rw [q] at f; exact f.elim
    | m _ _ => rw [q] at f; exact f.elim
/-- e.f -/
theorem e_xf {C : Addr} {fl : Str} (hz : Zc cls d oe) (hf : ∃ vs, oe.data = .fields vs) (hN : X.N[i]? = some n) (hv : Vis X.env.scope n) (xc : XfC X.K C) (hno : PySem.W.findIn X.K (.ref C) fl = some none)
    (hd : (n == ("__debug__" : Str)) = false := by decide) (hcd : (n == ("__classdict__" : Str)) = false := by decide) (hb : attributeBase (.Name n p1) fl X.env (eval (.Name n p1) X.env) = eval (.Name n p1) X.env := by rfl) :
    PE (X.suite a ((a, oe) :: pn)) (.Attribute (.Name n p1) fl pos) (rdE ⟨L, some (a, cls, d), F⟩ wNo (cXf C fl i)) := by
  refine pe_imp (pe_xf xc hno hz hf (pe_var (X := X.suite a ((a, oe) :: pn)) (i := i) hN hv hd hcd) hb) ?_
  rintro s H Q ⟨H0, I, B, z, S, at_, f⟩
  unfold cXf at f
  cases q : z[i]? with
  | none => rw [q] at f; exact f.elim
  | some y =>
    cases y with
    | x e =>
      rw [q] at f
      dsimp only at f
      obtain ⟨h1, h2, h3⟩ := xslot at_ q
      by_cases hC : e.cls = C
      · rw [if_pos hC] at f
        cases q2 : (e.ns.zip e.xs).lookup fl with
        | none => rw [q2] at f; exact f.elim
        | some y =>
          rw [q2] at f
          rcases h3.2 with ⟨z, _⟩ | ⟨a', vs, e1, e2, e3, e4⟩
          · rw [z] at q2; cases q2
          · obtain ⟨u, l1, l2⟩ := lookup_rps e3 e4 q2
            exact ⟨.ref a, h1, rfl, by rw [h2, hC], a', _, u, e1, at_.st.sub _ _ e2, l1, f.here at_.st l2⟩
      · rw [if_neg hC] at f; exact f.elim
    | u => rw [q] at f; exact f.elim
    | f => rw [q] at f; exact f.elim
    | d _ => rw [q] at f; exact f.elim
    | l _ => rw [q] at f; exact f.elim
    | m _ _ => rw [q] at f; exact f.elim
end
end CL
set_option Elab.async false
set_option linter.all false
set_option maxRecDepth 100000
set_option maxHeartbeats 2000000
/-! CL16: a lambda handed to a def that calls it. -/
namespace CL
open PySem PySem.Spec PyProof.Rows L2 LamX
variable [TheK]

/-- the call of what was handed on: z: the maker's slots -/
def cAct (i : Nat) (act : CE) (z : Sl) : CE := fun zZ S => match zZ[i]? with
  | some .f => act z S
  | _ => .bad
/-- g(lambda: ..); cb: g's body by what its parameter does -/
def cLam (n : Nat) (cb : CE → CS) (act : CE) : CE := fun z S => match cb (cAct 0 act z) (.f :: List.replicate (n - 1) .u) S with
  | .nx _ S' => .ok .non S'
  | .rt d S' => .ok d S'
  | _ => .bad
abbrev tabsOf (TL : List (Addr × Str)) : List NdefX.NTab := TL.map fun p => (p.1, fun _ _ => p.2)
theorem tabs_iff {TL : List (Addr × Str)} {H : Hp} : NdefX.TabsN (tabsOf TL) H ↔ Tabs TL H :=
  ⟨fun t p hp => (t (p.1, fun _ _ => p.2) (List.mem_map.mpr ⟨p, hp, rfl⟩)), fun t p hp => by
    obtain ⟨q, hq, rfl⟩ := List.mem_map.mp hp
    exact t q hq⟩
section
variable {L : Tl} {I : List Addr} {B H H1 : Hp} {S : Store} {c : Addr} {q : Str}
theorem Sto.codeOut (st : Sto L I B H S) (h : H c = some (CodeO c q)) : c ∉ I := fun hm => by
  obtain ⟨k, hk⟩ := List.mem_iff_getElem?.mp hm
  have hl : k < S.length := by
    have := (List.getElem?_eq_some_iff.mp hk).1
    rw [st.len] at this; exact this
  obtain ⟨b, u, h1, h2, h3⟩ := st.at_ k S[k] (List.getElem?_eq_getElem hl)
  rw [hk] at h1; cases h1
  rw [h] at h2; cases h2
  unfold CodeO at h3
  revert h3
  generalize S[k] = m
  intro h3
  cases m with
  | lst _ => obtain ⟨_, z, _⟩ := h3; cases z
  | dct _ _ => obtain ⟨_, z, _⟩ := h3; cases z
  | ins _ _ _ => obtain ⟨_, _, z, _⟩ := h3; cases z
theorem Sto.codes (st : Sto L I B H S) {L' : Tl} (h : TbOk L' H) : Sto L' I B H S := ⟨st.len, st.nd, st.dj, st.sub, st.nt, st.at_, h⟩
/-- all but tables stay -/
theorem gr_ext (e : ExtN H H1) : Gr I B H I B H1 where
  pre := ⟨[], by simp, by simp⟩
  ext := fun _ _ h => h
  new := fun _ _ h => .inl h
  keep := fun a o h _ t => e a o h t
  dom := fun a h o q => by
    cases o with
    | tbl ps => exact ⟨ps, rfl⟩
    | _ => exact h _ (e a _ q (fun _ z => by cases z))
theorem Sto.ext {L' : Tl} (st : Sto L I B H S) (e : ExtN H H1) (t : TbOk L' H1) : Sto L' I B H1 S :=
  ⟨st.len, st.nd, st.dj, fun a o h => e _ _ (st.sub a o h) (st.nt a o h), st.nt, fun i m h => by
    obtain ⟨a, o, h1, h2, h3⟩ := st.at_ i m h
    exact ⟨a, o, h1, e _ _ h2 h3.nt, h3⟩, t⟩
end
section
variable {X : Cx} {pins : List (Addr × Obj)} {σ : L2.St} {H1 : Hp} {s1 : Shared} {TL : List (Addr × Str)}
/-- the handed function called: what its text does, at the maker's slots -/
theorem e_act {Ng : List Str} {qg : Str} {sg : Scope} {g fl c' : Addr} {cdg pmv ctv : Value} {lp : Arguments} {lb : Expr} {ls : Scope} {k : Nat} {an : Str} {pn : List (Addr × Obj)} {xe : Value → Shared → Prop} {W : WX} {act : CE} {p1 p2 : Pos}
    {H0 : Hp} {I1 : List Addr} {B1 : Hp} {z : Sl} {S1 : Store}
    (IM : Inv X pins σ H1 s1) (LS : LamS X.env.scope ls) (hob : s1.heap.get? fl = some (PySem.W.kla_obj "<lambda>" (X.env.qual ++ "<lambda>") lp lb ls (cloFrom X.env.cells ls.names []) pmv c' ctv)) (hno : H1 fl = none) (hnf : fl ∉ frs X.stack)
    (hbi : bindArgs (PySem.W.kla_fn "<lambda>" (X.env.qual ++ "<lambda>") lp lb ls (cloFrom X.env.cells ls.names []) pmv (.ref c') ctv) ⟨[], []⟩ = pure [])
    (am : At ⟨(tabsOf TL, []), none, none⟩ H0 I1 B1 H1 σ z S1)
    (tk : Takes ((cxOf C8.CX0 X.prog X.w X.K X.mg X.base Ng qg sg g cdg X.A X.stack s1 H1 C8.E0).tr pn xe) W) (hrm : Room (k + 1) (X.A.deeper (envOfC qg sg s1.heap.objs.size g cdg)))
    (hla : ∀ (A : Around) (outer : List Env) (s : Shared) (H : Hp) (E : XK), Room k (A.deeper (lamEnv X ls s.heap.objs.size fl c')) → PE (lamCx X A outer s H E ls fl c') lb (rdE ⟨(tabsOf TL, []), none, none⟩ (kW E) act))
    (hN : Ng[0]? = some an) (hv : Vis sg an) (hd : (an == ("__debug__" : Str)) = false) (hcd : (an == ("__classdict__" : Str)) = false) :
    PE ((cxOf C8.CX0 X.prog X.w X.K X.mg X.base Ng qg sg g cdg X.A X.stack s1 H1 C8.E0).tr pn xe) (.Call (.Name an p1) [] [] p2)
      (rdE ⟨(tabsOf TL, [(c', X.env.qual ++ "<lambda>")]), none, some (fl, I1, B1, H1)⟩ W (cAct 0 act z)) := by
  refine ⟨fun pinsZ sZ σZ HZ Q IZ hread => ?_⟩
  obtain ⟨HY, JZ, BZ, zZ, SZ, atZ, fin⟩ := hread
  have slot : σZ[0]? = some (some (V.ref fl)) ∧ Gr I1 B1 H1 JZ BZ HZ ∧ Fin (tabsOf TL, [(c', X.env.qual ++ "<lambda>")]) Rp W σZ JZ BZ HZ Q (act z SZ) := by
    unfold cAct at fin
    cases q : zZ[0]? with
    | none => rw [q] at fin; exact fin.elim
    | some y =>
      cases y with
      | f =>
        rw [q] at fin
        obtain ⟨o, e1, b, Ib, Bb, Hb, e2, e3, e4, _⟩ := atZ.sl.get q
        cases e2
        subst e3
        exact ⟨e1, e4, fin⟩
      | u => rw [q] at fin; exact fin.elim
      | d _ => rw [q] at fin; exact fin.elim
      | l _ => rw [q] at fin; exact fin.elim
      | m _ _ => rw [q] at fin; exact fin.elim
      | x _ => rw [q] at fin; exact fin.elim
  obtain ⟨hs0, grz, fin⟩ := slot
  have hcode : HZ c' = some (CodeO c' (X.env.qual ++ "<lambda>")) := atZ.st.tb.2 (c', X.env.qual ++ "<lambda>") (by simp)
  have nin := atZ.st.codeOut hcode
  have st0 : Sto (tabsOf TL, []) JZ BZ HZ SZ := atZ.st.codes ⟨atZ.st.tb.1, by simp⟩
  have back : ∀ {J B' H' S'}, Gr JZ BZ HZ J B' H' → Sto (tabsOf TL, []) J B' H' S' → Sto (tabsOf TL, [(c', X.env.qual ++ "<lambda>")]) J B' H' S' := fun g st => st.codes ⟨st.tb.1, fun p hp => by
    have : p = (c', X.env.qual ++ "<lambda>") := by simpa using hp
    subst this
    exact g.keep c' _ hcode nin codeO_ne⟩
  have told : rdE ⟨(tabsOf TL, []), none, none⟩ (kW (WE W σZ)) act σ HZ Q := by
    refine ⟨H0, JZ, BZ, z, SZ, am.gr grz st0, ?_⟩
    cases q : act z SZ with
    | ok d S2 => rw [q] at fin; exact fun J B' H' v g st r => fin J B' H' v g (back g st) r
    | exc e S2 => rw [q] at fin; exact fun J B' H' c dd g st r => fin J B' H' c dd g (back g st) r
    | bad => rw [q] at fin; exact fin.elim
  refine wpAny_Call_Name_kw (thn ((pe_var (pos := p1) (i := 0) hN hv hd hcd).run pinsZ sZ σZ HZ (fun v Hv => v = .ref fl ∧ Hv = HZ) IZ ⟨.ref fl, hs0, rfl, rfl⟩) fun u s2 ⟨v, Hv, IV, rv, ev, eH⟩ => ?_)
  subst ev
  subst eH
  obtain rfl : u = Value.ref fl := rv
  have ob2 := IV.base.keep fl _ hob hno hnf (fun z => nomatch (show fl ∈ ([] : List Addr) from z))
  refine PySem.W.callWith_F0 ⟨_, _, _, _, ob2⟩ ?_
  obtain ⟨⟨oc, vs, t, co1, co2, co3⟩, _, _⟩ := IV.hok c' _ hcode
  have run : codeAny (model X.prog X.w) (X.A.deeper (envOfC qg sg s1.heap.objs.size g cdg)) (.call (.ref fl) ⟨[], []⟩) (CR (L2.CX X.prog X.w) (envOfC qg sg s1.heap.objs.size g cdg :: X.stack) X.prog X.w Hv s2 Q (WE W σZ)) s2 := by
    refine PySem.W.kla_callFunE hrm.depth ob2 rfl LS.co LS.gen rfl ⟨c', oc, vs, t, rfl, co1, co2, co3⟩ ?_
    rw [hbi]
    refine wpAny_pure (wpAny_newFunctionEnv (fun y hy => (LS.own y hy).2) (fun y hy => absurd hy (by simp)) (fun hN1 n1 n2 => ⟨IV.nolimit.fresh _ n2, ?_⟩) LS.kind)
    have kept : ∀ b o, s2.heap.get? b = some o → hN1.get? b = some o := fun b o e => n2.extBut b o (Nat.ne_of_lt (Heap.lt_size e)) (Heap.get?_push_of_some _ e)
    have J := lam_start2 (E := WE W σZ) (c' := c') (f := fl) (tk := s2.toks + ([] : List (Str × Value)).length) IM LS IV.env0 hrm.hd (show Un (frs X.stack) [] H1 Hv s1.heap s2.heap from IV.base) n1 kept
    refine PySem.W.kla_codeExpr (wpAny_mono ((hla _ _ s2 Hv _ (hrm.deeper _)).run [] _ _ Hv Q J told) (fun v s3 hq => ?_) fun e s3 hq => hq)
    obtain ⟨w', H', J', rv, q⟩ := hq
    exact ⟨w', H', J'.os, J'.bare, J'.base, J'.hok, rv, q⟩
  refine wpAny_call (codeAny_mono run fun r s3 hq => ?_)
  cases r with
  | error e => exact passAt tk σZ pinsZ Hv s2 e s3 IV hq
  | ok fl2 =>
    cases fl2 with
    | ret u => exact IV.after hq
    | next => exact False.elim hq
    | brk => exact False.elim hq
    | cont => exact False.elim hq
end
section
variable {X : Cx} {W : WX} {TL : List (Addr × Str)}
theorem e_lam {x an : Str} {g c P : Addr} {fd : FuncData} {st : Stmt} {k : Nat} {Ng : List Str} {lp : Arguments} {lb : Expr} {ls : Scope} {p lq pos : Pos} {cb : CE → CS} {act : CE} (F : Fun X.K x x st g fd) (Sg : FnScope Ng [an] (defScope st)) (hN : Ng[0]? = some an) (hva : Vis (defScope st) an) (hbd : L2.Binds X.K fd [an] [])
    (hg : Gl X x) (hm : X.mg x = some (.ref g))
    (hG : ∀ (cdg : Value) (s : Shared) (H : Hp) (I0 : List Addr) (B0 : Hp) (L : Tl) (FF : Option (Addr × List Addr × Hp × Hp)) (ac : CE), Room (k + 1) (X.A.deeper (envOfC x (defScope st) s.heap.objs.size g cdg)) →
      (∀ (W : WX) (pn : List (Addr × Obj)) (xe : Value → Shared → Prop) (p1 p2 : Pos), Takes ((cxOf C8.CX0 X.prog X.w X.K X.mg X.base Ng x (defScope st) g cdg X.A X.stack s H C8.E0).tr pn xe) W →
        PE ((cxOf C8.CX0 X.prog X.w X.K X.mg X.base Ng x (defScope st) g cdg X.A X.stack s H C8.E0).tr pn xe) (.Call (.Name an p1) [] [] p2) (rdE ⟨L, none, FF⟩ W ac)) →
      PSs (cxOf C8.CX0 X.prog X.w X.K X.mg X.base Ng x (defScope st) g cdg X.A X.stack s H C8.E0).nox (defBody st) (rdS ⟨L, none, FF⟩ I0 B0 H wNo (cb ac)))
    (TB : TabB X.base X.mg c P) (hcode : X.env.code = .ref c) (hmT : (P, X.env.qual ++ "<lambda>") ∈ TL) (hu : ∀ p ∈ TL, p.1 = P → p.2 = X.env.qual ++ "<lambda>") (hr : Room (k + 2) X.A) (LS : LamS X.env.scope ls) (hdef : defaultsOf lp X.env = ([], []))
    (hbi : ∀ (q : Str) (cl : List (Str × Addr)) (pm cv ctv : Value), bindArgs (PySem.W.kla_fn "<lambda>" q lp lb ls cl pm cv ctv) ⟨[], []⟩ = pure [])
    (hla : ∀ (A : Around) (outer : List Env) (s : Shared) (H : Hp) (E : XK) (f c' : Addr), Room k (A.deeper (lamEnv X ls s.heap.objs.size f c')) → PE (lamCx X A outer s H E ls f c') lb (rdE ⟨(tabsOf TL, []), none, none⟩ (kW E) act))
    (hdb : (x == ("__debug__" : Str)) = false := by decide) (hd : (an == ("__debug__" : Str)) = false := by decide) (hcd : (an == ("__classdict__" : Str)) = false := by decide) :
    PE X (.Call (.Name x p) [.Lambda lp lb ls lq] [] pos) (rdE ⟨(tabsOf TL, []), none, none⟩ W (cLam Ng.length cb act)) := by
  refine ⟨fun pins s σ H Q I hread => ?_⟩
  obtain ⟨H0, I0, B, z, S, at_, fin⟩ := hread
  obtain ⟨oc, od, kV, doc, pmv, ann, cdv, ct, osl, rfl, lk, hcg⟩ := F.ex
  refine wpAny_Call_Name_kw (ld_glob I hg hm ?_ hdb)
  refine PySem.W.callWith_K (h₀ := X.base) I.ok.mod.kin F.kp ?_ (by rfl) (by rfl)
  show wpAny _ _ (spliced ((false, eval (.Lambda lp lb ls lq) X.env) :: backTo pos (starEach [] X.env))) _ _ s
  refine Calls.spliced_cons (lam_make2 I TB hcode hmT hu (tabs_iff.mp at_.st.tb.1) hdef (LS.has I.ok) fun fl c' pm' ctv H1 s1 IM eN tb1 hob hno hnf hco => ?_)
  refine Calls.spliced_nil ⟨IM.kIn, ?_⟩
  have t1 : TbOk (tabsOf TL, [(c', X.env.qual ++ "<lambda>")]) H1 := ⟨tabs_iff.mpr tb1, fun p hp => by
    have : p = (c', X.env.qual ++ "<lambda>") := by simpa using hp
    subst this
    exact hco⟩
  have gr1 : Gr I0 B H I0 B H1 := gr_ext eN
  have st1 := at_.st.ext eN t1
  have am : At ⟨(tabsOf TL, []), none, none⟩ H0 I0 B H1 σ z S := at_.gr gr1 (at_.st.ext eN ⟨tabs_iff.mpr tb1, by simp⟩)
  have rc : codeAny (model X.prog X.w) X.A (.call (.ref g) ⟨[.ref fl], []⟩) (CR C8.CX0 X.stack X.prog X.w H1 s1 Q C8.E0) s1 := by
    refine run_ofS (N := Ng) (ps := [an]) (us := [.ref fl]) (vs := [.ref fl]) lk hcg Sg hr IM.env0 (hbd s1 [.ref fl] IM.kIn rfl) (.cons rfl .nil) rfl fun hr' => ?_
    have body := hG cdv s1 H1 I0 B (tabsOf TL, [(c', X.env.qual ++ "<lambda>")]) (some (fl, I0, B, H1)) (cAct 0 act z) hr' fun W pn xe p1 p2 tk =>
      e_act IM LS hob hno hnf (hbi _ _ _ _ _) am tk hr' (fun A outer s H E hr2 => hla A outer s H E fl c' hr2) hN hva hd hcd
    refine ⟨_, body.nox, I0, B, .f :: List.replicate (Ng.length - 1) .u, S, Gr.refl _ _ _, ?_, ?_⟩
    · refine ⟨⟨?_, fun i o y h1 h2 => ?_, fun i j a y w h1 h2 h3 h4 o1 o2 => ?_⟩, st1⟩
      · unfold L2.start
        have : 1 ≤ Ng.length := (List.getElem?_eq_some_iff.mp hN).1
        simp
      · cases i with
        | zero =>
          cases h2
          unfold L2.start at h1
          cases h1
          exact ⟨fl, I0, B, H1, rfl, rfl, Gr.refl _ _ _, fun _ h => h⟩
        | succ i =>
          rw [List.getElem?_cons_succ, List.getElem?_replicate] at h2
          split at h2
          · cases h2; trivial
          · cases h2
      · cases i with
        | zero => cases h3; cases o1
        | succ i =>
          rw [List.getElem?_cons_succ, List.getElem?_replicate] at h3
          split at h3
          · cases h3; cases o1
          · cases h3
    · unfold cLam at fin
      cases q : cb (cAct 0 act z) (.f :: List.replicate (Ng.length - 1) .u) S with
      | nx z' S' =>
        rw [q] at fin
        exact fun J B' H' s' g gb a => fin J B' H' .non (gr1.trans g) (a.st.codes ⟨a.st.tb.1, by simp⟩) rfl
      | rt d S' =>
        rw [q] at fin
        exact fun J B' H' v g gb st r => fin J B' H' v (gr1.trans g) (st.codes ⟨st.tb.1, by simp⟩) r
      | bk _ _ => rw [q] at fin; exact fin.elim
      | ct _ _ => rw [q] at fin; exact fin.elim
      | exc _ _ _ => rw [q] at fin; exact fin.elim
      | bad => rw [q] at fin; exact fin.elim
  refine wpAny_call (codeAny_mono rc fun r s2 hq => ?_)
  cases r with
  | error e => exact (show False from hq).elim
  | ok fl2 =>
    cases fl2 with
    | ret u => exact IM.after hq
    | next => exact False.elim hq
    | brk => exact False.elim hq
    | cont => exact False.elim hq
end
end CL
set_option Elab.async false
set_option linter.all false
set_option maxRecDepth 100000
set_option maxHeartbeats 2000000
/-! CL17: enumerate(tuple), enumerate(list). -/
namespace PySem
namespace ENT
open Sem (wp)
/-- enumerate(v): iter(v) is a new object o -/
theorem enew {v : Value} {o : Obj} {HH : Heap → Prop} (Bg : Begins v o HH) :
    Meets (Builtin.«enumerate.__new__» ⟨[.type "enumerate", v], []⟩) (fun _ R s => HH s.heap ∧
      R (.ok (.ret (.ref (s.heap.push o).objs.size))) { s with heap := (s.heap.push o).push { cls := .type "enumerate", data := .fields #[.none, .bool false, .ref s.heap.objs.size, rawInt 0, .none, .none] } }) :=
  .of_wp fun prog w A R s h => by
    obtain ⟨hp, g, d, tk, os⟩ := s
    obtain ⟨h0, h⟩ := h
    have hsub := sub_enumerate
    have q : ∀ {A' : Around} {E : Value → Shared → Prop} {Q : Value → Shared → Prop}, Q (.ref hp.objs.size) ⟨hp.push o, g, d, tk, os⟩ → wpAny (model prog w) A' (pyIter v) Q E ⟨hp, g, d, tk, os⟩ :=
      fun z => Bg.iter prog w _ _ ⟨hp, g, d, tk, os⟩ _ h0 z
    wp_walk
    refine wpAny_stack_any fun st => wpAny_pure ?_
    split
    · rename_i c _ _ _ _ _
      cases (c == Value.type "enumerate")
      · wp_walk using q
        exact ⟨_, rfl, h⟩
      · wp_walk using q
        exact ⟨_, rfl, h⟩
    · wp_walk using q
      exact ⟨_, rfl, h⟩
section
variable {prog : Program} {w : World} {A : Around} {E : Value → Shared → Prop} {s : Shared}
theorem call_enum {v : Value} {o : Obj} {HH : Heap → Prop} {Q : Value → Shared → Prop} (Bg : Begins v o HH) (h0 : HH s.heap)
    (h : ∀ h', IsEnum h' (s.heap.objs.size + 1) s.heap.objs.size 0 .none → h'.get? s.heap.objs.size = some o → h'.objs.size = s.heap.objs.size + 2 →
      (∀ b u, s.heap.get? b = some u → h'.get? b = some u) → Q (.ref (s.heap.objs.size + 1)) { s with heap := h' }) :
    wpAny (model prog w) A (call (.type "enumerate") [v]) Q E s := by
  have hz : (s.heap.push o).objs.size = s.heap.objs.size + 1 := Heap.size_push ..
  have ho : (s.heap.push o).get? s.heap.objs.size = some o := Heap.get?_push_size _ Bg.free
  refine callType_new F.called_enumerate (by decide) (F.typeCall_enumerate_1 _) (F.newCall_enumerate_1 _) (fun obj => F.args_object_init_2 obj _) F.entry_enumerate_new (enew Bg) ⟨h0, ?_⟩
  show _ ∧ _
  rw [hz]
  have he : IsEnum ((s.heap.push o).push { cls := .type "enumerate", data := .fields #[.none, .bool false, .ref s.heap.objs.size, rawInt 0, .none, .none] }) (s.heap.objs.size + 1) s.heap.objs.size 0 .none := by
    have q := Heap.get?_push_size (s.heap.push o) (o := { cls := .type "enumerate", data := .fields #[.none, .bool false, .ref s.heap.objs.size, rawInt 0, .none, .none] }) rfl
    rw [hz] at q
    exact q
  exact ⟨⟨_, he, rfl⟩, h _ he (Heap.get?_push_of_some _ ho) (by rw [Heap.size_push, hz]) fun b u x => Heap.get?_push_of_some _ (Heap.get?_push_of_some _ x)⟩
end
end ENT
end PySem
namespace CL
open PySem PySem.Spec PyProof.Rows L2
variable [TheK]
/-- the tuple at a, each item in a new pair -/
def IteT (K : PySem.W.Frag) (a : Addr) : It :=
  ⟨fun i H => ∃ (xs : List V) (x : V), SqT K H a xs ∧ xs[i]? = some x, fun i H v H' => ∃ p x, v = .ref p ∧ H p = none ∧ H' = upd H p (.tup [.int (i : Nat), x]) ∧ ∀ xs, SqT K H a xs → xs[i]? = some x, fun i H => ∃ xs : List V, SqT K H a xs ∧ xs.length = i⟩
theorem turn_enT {P : Program} {w : World} {K : PySem.W.Frag} {tgs : List Expr} {kk : Nat} {tpos : Pos} (a e it : Addr) :
    Turn P w K (.Tuple tgs kk tpos) (IteT K a) [e, it] e (fun i h => (∃ old, IsEnum h e it ((i : Nat) : Int) old) ∧ h.IsTupleIter it a i ∧ e ≠ it ∧ a ≠ it ∧ a ≠ e) where
  mem := by simp
  obj := fun i h st b hb => by
    obtain ⟨⟨old, h1⟩, ⟨o, h2, _, h3⟩, _⟩ := st
    rcases (show b = e ∨ b = it by simpa using hb) with z | z
    · subst z
      exact ⟨_, h1, fun v q => nomatch q⟩
    · subst z
      exact ⟨o, h2, fun v q => by rw [h3] at q; cases q⟩
  keep := fun i h h' st k => by
    obtain ⟨⟨old, h1⟩, h2, h3⟩ := st
    exact ⟨⟨old, k e (by simp) _ h1⟩, h2.at fun o q => k it (by simp) o q, h3⟩
  item := by
    intro X hP hw hK hc i pins s σ H E I hf st hg
    subst hP hw hK
    obtain ⟨⟨old, he⟩, hit, hne, hai, hae⟩ := st
    obtain ⟨xs, x, hq, hx⟩ := hg
    obtain ⟨its, rv, p, hz⟩ := I.tuple hq
    obtain ⟨u, hu, ru⟩ := rv.get hx
    have pt : s.heap.IsTuple a its.toArray := p
    have D := Draws.tuple (prog := X.prog) (w := X.w) (A := X.A.in1) (I.ok.hd hc) it a hai its.toArray
    have hel : e < s.heap.objs.size := Heap.lt_size he
    have hil : it < s.heap.objs.size := by obtain ⟨_, q, _⟩ := hit; exact Heap.lt_size q
    have hlt : i < its.toArray.size := by
      have := (List.getElem?_eq_some_iff.mp hu).1
      simpa using this
    refine wpAny_pyNext_enum_itemC D he ⟨hit, pt⟩ hlt hne (by simp [hne, Ne.symm hae]) fun y h1 tk hy ho hst hT hsz hk => ?_
    have hyu : y = u := by
      have q : its.toArray[i]? = some y := hy
      simp only [List.getElem?_toArray] at q
      rw [hu] at q; exact (Option.some.inj q).symm
    subst hyu
    refine ⟨_, rfl, wpAny_letOwnedTupleGo_enum (s := { s with heap := h1, toks := tk + 1 }) ho fun h2 he2 sb => ?_⟩
    have hT2 : h2.get? s.heap.objs.size = some { cls := .type "tuple", data := .seq #[.int i tk, y] } := (sb.2 _ (Nat.ne_of_gt hel)).trans hT
    have new : ObjOk X.prog X.w (upd H s.heap.objs.size (.tup [.int (i : Nat), x])) h2 s.heap.objs.size (.tup [.int (i : Nat), x]) :=
      ⟨by show 2 ≤ sizeLine; decide, [.int i tk, y], .cons ⟨_, rfl⟩ (.cons ru .nil), ⟨_, hT2, rfl, _, rfl⟩⟩
    have I1 : Inv X pins σ (upd H s.heap.objs.size (.tup [.int (i : Nat), x])) { s with heap := h2, toks := tk + 1 } :=
      I.turnedNew (ch := [e, it]) (fun b ob hb q => by
        have hb1 : b ≠ e := fun z => hb (by simp [z])
        have hb2 : b ≠ it := fun z => hb (by simp [z])
        exact (sb.2 b hb1).trans (hk b ob hb1 hb2 q)) hf (Nat.le_refl _) new
    refine ⟨.ref s.heap.objs.size, _, I1, rfl, ⟨_, x, rfl, I.hok.fresh (Nat.le_refl _), rfl, fun ys hy => by rw [I.tuple_inj hy hq]; exact hx⟩, ⟨⟨y, ?_⟩, hst.1.at fun o q => (sb.2 it (Ne.symm hne)).trans q, hne, hai, hae⟩, fun b hb => ?_⟩
    · have e1 : ((i + 1 : Nat) : Int) = (i : Int) + 1 := by omega
      rw [e1]
      exact he2
    · have hb' : b < s.heap.objs.size := by
        rcases (show b = e ∨ b = it by simpa using hb) with z | z
        · rw [z]; exact hel
        · rw [z]; exact hil
      rw [upd_ne (Nat.ne_of_lt hb')]
      exact (hf b hb).1
  done := by
    intro X hP hw hK hc i pins s σ H E I hf st hg
    subst hP hw hK
    obtain ⟨⟨old, he⟩, hit, hne, hai, hae⟩ := st
    obtain ⟨xs, hq, hx⟩ := hg
    obtain ⟨its, rv, p, hz⟩ := I.tuple hq
    have pt : s.heap.IsTuple a its.toArray := p
    obtain ⟨f0, f1, f2, f3, f4, f5⟩ := hf it (by simp)
    have hl := rv.length
    have D0 := Draws.tuple (prog := X.prog) (w := X.w) (A := X.A.in1) (I.ok.hd hc) it a hai its.toArray
    have es : its.toArray.size = i := by simp; omega
    rw [es] at D0
    exact wpAny_pyNext_enum_endD D0 he ⟨hit, pt⟩ fun h' eb => ⟨rfl, I.turned (t' := s.toks) (fun b o hb q => eb b o hb q) f0 f1 f3 f4 f5⟩
  self := fun A i s Q E st h => by
    obtain ⟨⟨_, he⟩, _⟩ := st
    exact wpAny_pyIter_enum he h
def iEnT (K : PySem.W.Frag) (ta : TA) : TI := fun σ H R => ta σ H fun vs H1 => ∃ a xs, vs = [.ref a] ∧ ((SqL K H1 a xs ∧ R (Ite K a) H1) ∨ (SqT K H1 a xs ∧ R (IteT K a) H1))
theorem pi_enA {X : Cx} {e : Expr} {ta : TA} {p pos tpos : Pos} {tgs : List Expr} {kk : Nat} (hg : Gl X "enumerate") (hm : X.mg "enumerate" = none) (ha : PA X [e] ta) (hs : starEach [e] X.env = [(false, eval e X.env)] := by rfl) :
    PI X (.Tuple tgs kk tpos) (.Call (.Name "enumerate" p) [e] [] pos) (iEnT X.K ta) := by
  refine ⟨fun pins s σ H R I h => ?_⟩
  refine Call_ (ld_blt I hg hm boot_enumerate (PyProof.Rows.callWith_type1 (thn (ha.run pos pins s σ H _ I h) fun us s1 ⟨vs, H1, I1, r1, q1⟩ => ?_) hs rfl))
  obtain ⟨a, xs, rfl, q1⟩ := q1
  cases r1 with
  | cons r rr =>
    cases rr
    cases r
    have two : ∀ b, b ∈ [s1.heap.objs.size + 1, s1.heap.objs.size] → FpOk X pins H1 b := fun b hb => by
      have hle : s1.heap.objs.size ≤ b := by
        rcases (show b = s1.heap.objs.size + 1 ∨ b = s1.heap.objs.size by simpa using hb) with z | z
        · rw [z]; exact Nat.le_add_right _ _
        · rw [z]; exact Nat.le_refl _
      exact I1.fpOk hle (I1.hok.fresh hle)
    rcases q1 with ⟨hq, q⟩ | ⟨hq, q⟩
    · obtain ⟨its, rv, p', _⟩ := I1.list hq
      refine ENT.call_enum (begins_list a its.toArray) p'.isList fun h' he hit hsz hk => wpAny_pyIter_enum he ?_
      exact ⟨s1.heap.objs.size + 1, [s1.heap.objs.size + 1, s1.heap.objs.size], _, _, H1, rfl, I1.kept (t' := s1.toks) hk, turn_enum a (s1.heap.objs.size + 1) s1.heap.objs.size, ⟨⟨.none, he⟩, ⟨_, hit, rfl, rfl⟩, Nat.succ_ne_self _⟩, two, q⟩
    · obtain ⟨its, rv, p', _⟩ := I1.tuple hq
      have pt : s1.heap.IsTuple a its.toArray := p'
      obtain ⟨o, ho, _⟩ := id pt
      have hlt := Heap.lt_size ho
      refine ENT.call_enum (begins_tuple a its.toArray) pt fun h' he hit hsz hk => wpAny_pyIter_enum he ?_
      exact ⟨s1.heap.objs.size + 1, [s1.heap.objs.size + 1, s1.heap.objs.size], _, _, H1, rfl, I1.kept (t' := s1.toks) hk, turn_enT a (s1.heap.objs.size + 1) s1.heap.objs.size, ⟨⟨.none, he⟩, ⟨_, hit, rfl, rfl⟩, Nat.succ_ne_self _, Nat.ne_of_lt hlt, Nat.ne_of_lt (Nat.lt_succ_of_lt hlt)⟩, two, q⟩
variable {L : Tl} {T : Pm} {X : Cx} {W : WX}
theorem walk_enT {K : PySem.W.Frag} {a : Addr} {xs : List V} : Walk (IteT K a) xs.length (fun H => SqT K H a xs) (YPair (fun i => some (.int (i : Nat))) (fun i => xs[i]?)) := by
  refine ⟨fun i _ hi q => ⟨xs, xs[i], q, by simp [hi]⟩, fun _ q => ⟨xs, q, rfl⟩, fun i H v H' _ q y => ?_⟩
  obtain ⟨p, x, h1, h2, h3, h4⟩ := y
  exact ⟨p, .int (i : Nat), x, h1, h2, h3, rfl, h4 xs q⟩
theorem enum_at {xs : List D} {i : Nat} (h : i < xs.length) : (enumD xs)[i]? = some (.tup [.int (i : Nat), xs[i]]) := by
  unfold enumD
  simp [h]
theorem i_enum {tgs : List Expr} {kk : Nat} {tpos p pos : Pos} {e : Expr} {ce : CE} (hg : Gl X "enumerate") (hm : X.mg "enumerate" = none) (he : PE X e (rdE T W ce)) (hs : starEach [e] X.env = [(false, eval e X.env)] := by rfl) :
    PI X (.Tuple tgs kk tpos) (.Call (.Name "enumerate" p) [e] [] pos) (rdI T W (CL.iEnum ce)) := by
  refine pi_imp (pi_enA hg hm (pa_cons he pa_nil hs) hs) ?_
  rintro s H R ⟨H0, I, B, z, S, a, h⟩
  refine bindI (rep := Rp) a h fun J B' H' S' v x g a1 r1 f1 => ?_
  cases x with
  | tup xs =>
    obtain ⟨c, vs, rfl, hc, hb, rv⟩ := Rp.tup a1.st r1
    refine ⟨c, vs, rfl, .inr ⟨SqT.of hc, f1 J B' H' _ (Gr.refl _ _ _) a1.st (Wk.pairs walk_enT (by rw [rv.len]; simp [enumD]) (fun i x y e1 e2 hi => ?_) fun g st => SqT.of (st.sub _ _ (g.ext _ _ hb)))⟩⟩
    cases e1
    have hl : i < xs.length := by rw [← rv.len]; exact hi
    exact ⟨.int (i : Nat), xs[i], enum_at hl, rfl, rv.at_ e2 (List.getElem?_eq_getElem hl)⟩
  | lst xs =>
    obtain ⟨c, vs, rfl, hc, hb, rv⟩ := Rp.lst a1.st r1
    refine ⟨c, vs, rfl, .inl ⟨SqL.of hc, f1 J B' H' _ (Gr.refl _ _ _) a1.st (Wk.pairs walk_enum (by rw [rv.len]; simp [enumD]) (fun i x y e1 e2 hi => ?_) fun g st => SqL.of (st.sub _ _ (g.ext _ _ hb)))⟩⟩
    cases e1
    have hl : i < xs.length := by rw [← rv.len]; exact hi
    exact ⟨.int (i : Nat), xs[i], enum_at hl, rfl, rv.at_ e2 (List.getElem?_eq_getElem hl)⟩
  | _ => exact f1.elim
end CL
set_option Elab.async false
set_option linter.all false
set_option maxRecDepth 100000
set_option maxHeartbeats 2000000
/-! CL18: new objects; isinstance; list methods that read; types as values; lists laid into the store. -/
namespace CL
open PySem PySem.Spec PyProof.Rows L2
variable [TheK]
variable {L : Tl} {T : Pm} {X : Cx} {W : WX}
section
variable {k : Nat} {f C : Addr} {fd : FuncData} {ps : List Str} {g : G} {x : Str} {p pos apos : Pos} {e o : Expr} {es : List Expr} {co ce : CE} {ca : CA} {E : XK}
/-- a new object: what is to be shown of the call -/
theorem make_read {s : L2.St} {H : Hp} {Q : VK} {n : Nat} (hn : AN ca n) (hp : ps.length = n + 1) (h : rdE T (kW E) (cMake C g ca) s H Q) : L2.tMake C (spG T.tabs ps.length g) [] E (rdA T (kW E) ca) s H Q := by
  revert s H Q
  rintro s H Q ⟨H0, I, B, z, S, a, h⟩
  unfold cMake at h
  have hn' := hn z S
  cases q : ca z S with
  | bad => rw [q] at h; exact h.elim
  | exc y S' =>
    refine ⟨H0, I, B, z, S, a, ?_⟩
    rw [q] at h ⊢
    exact h
  | ok ys S' =>
    refine ⟨H0, I, B, z, S, a, ?_⟩
    rw [q] at h ⊢
    simp only [R.bind] at h
    intro J B' H' vs g1 st1 r1 xa dx hxa hdx hne
    rw [List.append_nil]
    have a1 := a.gr g1 st1
    have h := Fin.gr h g1
    have a2 := a1.keep (keep_new (o := HO.own xa) hdx)
    have n2 : upd H' dx (.own xa) xa = none := by rw [upd_ne (Ne.symm hne)]; exact hxa
    have a3 := a2.grow (u := .ins C dx []) (m := .ins C [] []) n2 ⟨dx, [], rfl, rfl, trivial⟩
    have gg : Gr J B' H' (J ++ [xa]) B' (upd (upd H' dx (.own xa)) xa (.ins C dx [])) := by
      refine ⟨⟨[xa], rfl, fun b hb => ?_⟩, fun _ _ h => h, fun _ _ h => .inl h, fun b o hb _ _ => keep_new n2 b o (keep_new hdx b o hb), fun b hb => (hb.down fun q => ?_).down fun q => ?_⟩
      · have : b = xa := by simpa using hb
        subst this; exact .of hxa
      · subst q; exact .of n2
      · subst q; exact .of hdx
    have rx : Rp (J ++ [xa]) B' (.ref xa) (.ptr S'.length) := ⟨xa, by rw [← st1.len]; simp, rfl⟩
    refine call_sp (W := kW E) (s := s) (ds := .ptr S'.length :: ys) (by simp [r1.len, hn' ys S' q, hp]) a3 ⟨rx, r1.gr gg⟩ ?_ fun _ _ _ h => h
    cases q2 : g (.ptr S'.length :: ys) (S' ++ [.ins C [] []]) with
    | bad => rw [q2] at h; exact h.elim
    | exc y S2 => rw [q2] at h; exact fun J2 B2 H2 c dd g2 => h J2 B2 H2 c dd (gg.trans g2)
    | ok d S2 =>
      rw [q2] at h
      intro J2 B2 H2 v g2 st2 rv
      cases d with
      | non => exact ⟨rv, h J2 B2 H2 (.ref xa) (gg.trans g2) st2 (rx.gr g2)⟩
      | _ => exact h.elim
/-- C(e, ..) -/
theorem e_make (M : Mk X.K C f) (F : FnC X.prog X.w X.K X.mg X.base T.tabs k f fd ps g) (hr : Room (k + 1) X.A) (hg : Gl X x) (hm : X.mg x = some (.ref C)) (hb : L2.Binds X.K fd ps []) (hx : Passes (L2.CX X.prog X.w) X E) (ha : PA X (e :: es) (rdA T (kW E) ca)) {n : Nat} (hn : AN ca n) (hp : ps.length = n + 1)
    (hdb : (x == ("__debug__" : Str)) = false := by decide) (he : starEach (e :: es) X.env = (false, eval e X.env) :: starEach es X.env := by rfl) (hpl : (backTo pos (starEach es X.env)).any (·.1) = false := by rfl) :
    PE X (.Call (.Name x p) (e :: es) [] pos) (rdE T (kW E) (cMake C g ca)) := by
  exact pe_imp (pe_make M F hr hg hm hb .nil hx ha hdb he hpl) fun _ _ _ h => make_read hn hp h
/-- a new list, laid into the store -/
def cToP (c : CE) : CE := fun z S => (c z S).bind fun d S' => match d with
  | .lst xs => .ok (.ptr S'.length) (S' ++ [.lst xs])
  | _ => .bad
theorem e_toP (he : PE X e (rdF T W ce)) : PE X e (rdE T W (cToP ce)) := by
  refine pe_imp he ?_
  rintro s H Q ⟨H0, I, B, z, S, a, h⟩
  unfold cToP at h
  refine ⟨H0, I, B, z, S, a, ?_⟩
  cases q : ce z S with
  | bad => rw [q] at h; exact h.elim
  | exc y S' => rw [q] at h; exact h
  | ok d S' =>
    rw [q] at h
    cases d with
    | lst xs =>
      intro J B' H' p vs g st hp r
      exact h (J ++ [p]) B' _ (.ref p) (g.trans (gr_grow st hp)) ((a.gr g st).grow (u := .lst vs) (m := .lst xs) hp ⟨vs, rfl, r.mono ⟨[p], rfl⟩ (xs := xs) fun _ _ h => h⟩).st ⟨p, by rw [← st.len]; simp, rfl⟩
    | _ => exact h.elim
end
/-! ### types as values, isinstance -/
theorem e_ty {x : Str} {n : String} {pos : Pos} (hg : Gl X x) (hm : X.mg x = none) (hv : bootBuiltins x = some (.type n)) (hn : x ≠ "__name__" := by decide) (hd : (x == ("__debug__" : Str)) = false := by decide) : PE X (.Name x pos) (rdE T W (cK (.ty n))) :=
  e_k (pe_bltn (v := .ty n) hg hm hv rfl hn hd) fun _ _ => rfl
theorem callR_or {fn : Value} {r r' : List V → Hp → VK → Prop} (h : CallR X fn r) (h' : CallR X fn r') : CallR X fn (fun xs H Q => r xs H Q ∨ r' xs H Q) := fun pins s σ H xs us Q I rv q => q.elim (h pins s σ H xs us Q I rv) (h' pins s σ H xs us Q I rv)
theorem tyX_of {K : PySem.W.Frag} (hK : K = TheK.K) {I : List Addr} {B H : Hp} {S : Store} {v : V} {x : D} {a : String} (st : Sto L I B H S) (r : Rp I B v x) (e : tyOf S x = some a) : TyX K H v (.type a) := by
  unfold tyOf at e
  split at e
  · cases e; cases r; exact .base .non
  · cases e; cases r; exact .base (.bl _)
  · cases e; cases r; exact .base (.int _)
  · cases e; cases r; exact .base (.str _)
  · cases e; cases r; exact .byt _
  · cases e
    obtain ⟨b, vs, rfl, h, _⟩ := Rp.tup st r
    exact .base (.tup h)
  · cases e
    obtain ⟨b, vs, rfl, h, _⟩ := Rp.lst st r
    exact .base (.lst h)
  · cases e
    obtain ⟨b, rfl, h⟩ := r
    rcases h with h | ⟨o, _, _, h1, h2, _⟩
    · rcases st.rdL h with h | ⟨o, h⟩
      · exact .base (.lst h)
      · exact .base (.frz h)
    · subst hK
      exact .kList h1 h2
  · cases e
    obtain ⟨b, vs, rfl, h, _⟩ := r
    exact .base (.dK (st.sub _ _ h))
  · split at e
    · cases e
      rename_i q
      obtain ⟨b, o, rfl, _, h, vs, rfl, _⟩ := Rp.ptr st r q
      exact .base (.lst h)
    · cases e
      rename_i q
      obtain ⟨b, o, rfl, _, h, vs, rfl, _⟩ := Rp.ptr st r q
      exact .base (.dK h)
    · cases e
  · cases e
theorem kits_ok {K : PySem.W.Frag} {I : List Addr} {B : Hp} {a : String} : ∀ {ts : List D} {vs : List V} {b : Bool}, Rps I B vs ts → bIsi.kits a ts = some b → ∃ us, Paired ClsV vs us ∧ PySem.W.kitAny K (.type a) us = some b
  | [], [], b, _, e => by
    unfold bIsi.kits at e; cases e
    exact ⟨[], .nil, kitAny_nil⟩
  | .ty t :: ts, v :: vs, b, r, e => by
    unfold bIsi.kits at e
    have hv : v = .ty t := r.1
    subst hv
    cases q : L2.kitB a t with
    | none => rw [q] at e; cases e
    | some c =>
      cases q2 : bIsi.kits a ts with
      | none => rw [q, q2] at e; cases e
      | some d =>
        rw [q, q2] at e
        cases e
        obtain ⟨us, hu, hk⟩ := kits_ok r.2 q2
        refine ⟨_, .cons (.ty t) hu, kitAny_cons (kit_ty q) (fun z => by subst z; simpa using hk) fun z => by subst z; rfl⟩
  | [], _ :: _, _, r, _ => r.elim
  | _ :: _, [], _, r, _ => r.elim
  | .non :: _, _ :: _, _, _, e => by cases e
  | .bl _ :: _, _ :: _, _, _, e => by cases e
  | .int _ :: _, _ :: _, _, _, e => by cases e
  | .str _ :: _, _ :: _, _, _, e => by cases e
  | .byt _ :: _, _ :: _, _, _, e => by cases e
  | .tup _ :: _, _ :: _, _, _, e => by cases e
  | .lst _ :: _, _ :: _, _, _, e => by cases e
  | .scr _ :: _, _ :: _, _, _, e => by cases e
  | .dct _ _ :: _, _ :: _, _, _, e => by cases e
  | .obj _ _ _ :: _, _ :: _, _, _, e => by cases e
  | .ptr _ :: _, _ :: _, _, _, e => by cases e
  | .ref _ :: _, _ :: _, _, _, e => by cases e
theorem k_isi {K : PySem.W.Frag} (hK : K = TheK.K) : OkA L (fun xs H Q => rIsi K xs H Q ∨ rIsiT K xs H Q) bIsi := by
  intro W s I B H Q S vs xs st r f
  unfold bIsi at f
  split at f
  · rename_i x t
    obtain ⟨v, u, rfl, rv, ru⟩ := r.two
    cases ru
    cases q : tyOf S x with
    | none => rw [q] at f; exact f.elim
    | some a =>
      rw [q] at f
      simp only [Option.bind] at f
      cases q2 : L2.kitB a t with
      | none => rw [q2] at f; exact f.elim
      | some b =>
        rw [q2] at f
        exact .inl ⟨v, .ty t, _, _, b, rfl, .ty t, tyX_of hK st rv q, kit_ty q2, f.here st rfl⟩
  · rename_i x ts
    obtain ⟨v, u, rfl, rv, ru⟩ := r.two
    obtain ⟨p, cs, rfl, hp, _, rc⟩ := Rp.tup st ru
    cases q : tyOf S x with
    | none => rw [q] at f; exact f.elim
    | some a =>
      rw [q] at f
      simp only at f
      cases q2 : bIsi.kits a ts with
      | none => rw [q2] at f; exact f.elim
      | some b =>
        rw [q2] at f
        obtain ⟨us, hu, hk⟩ := kits_ok rc q2
        exact .inr ⟨v, p, cs, _, us, b, rfl, hp, hu, tyX_of hK st rv q, hk, f.here st rfl⟩
  · exact f.elim
/-! ### xs.count(y), xs.index(y), flat items -/
def toV : D → Option V
  | .non => some .non
  | .bl b => some (.bl b)
  | .int i => some (.int i)
  | .str s => some (.str s)
  | _ => none
theorem toV_rp {I : List Addr} {B : Hp} {v w : V} {x : D} (r : Rp I B v x) (e : toV x = some w) : v = w ∧ flatV w = true := by
  unfold toV at e
  split at e
  · cases e; exact ⟨r, rfl⟩
  · cases e; exact ⟨r, rfl⟩
  · cases e; exact ⟨r, rfl⟩
  · cases e; exact ⟨r, rfl⟩
  · cases e
def toVs : List D → Option (List V)
  | [] => some []
  | x :: xs => match toV x, toVs xs with
    | some v, some vs => some (v :: vs)
    | _, _ => none
theorem toVs_rp {I : List Addr} {B : Hp} : ∀ {vs ws : List V} {xs : List D}, Rps I B vs xs → toVs xs = some ws → vs = ws ∧ ws.all flatV = true
  | [], ws, [], _, e => by unfold toVs at e; cases e; exact ⟨rfl, rfl⟩
  | v :: vs, ws, x :: xs, r, e => by
    unfold toVs at e
    cases q : toV x with
    | none => rw [q] at e; cases e
    | some w =>
      cases q2 : toVs xs with
      | none => rw [q, q2] at e; cases e
      | some w2 =>
        rw [q, q2] at e; cases e
        obtain ⟨h1, h2⟩ := toV_rp r.1 q
        obtain ⟨h3, h4⟩ := toVs_rp r.2 q2
        exact ⟨by rw [h1, h3], by simp [h2, h4]⟩
  | [], _, _ :: _, r, _ => r.elim
  | _ :: _, _, [], r, _ => r.elim
/-- the first place of y -/
def findV (y : V) : List V → Option Nat
  | [] => none
  | z :: zs => if eqV z y then some 0 else (findV y zs).map (· + 1)
theorem findV_at {y : V} : ∀ {zs : List V} {j : Nat}, findV y zs = some j → (∃ z, zs[j]? = some z ∧ eqV z y = true) ∧ ∀ (m : Nat) (z' : V), m < j → zs[m]? = some z' → eqV z' y = false
  | [], j, e => by cases e
  | z :: zs, j, e => by
    unfold findV at e
    by_cases h : eqV z y = true
    · rw [if_pos h] at e; cases e
      exact ⟨⟨z, rfl, h⟩, fun m z' hm => by omega⟩
    · rw [if_neg h] at e
      cases q : findV y zs with
      | none => rw [q] at e; cases e
      | some i =>
        rw [q] at e; cases e
        obtain ⟨⟨w, h1, h2⟩, h3⟩ := findV_at q
        refine ⟨⟨w, by simpa using h1, h2⟩, fun m z' hm hz => ?_⟩
        cases m with
        | zero => simp at hz; subst hz; simpa using h
        | succ m => exact h3 m z' (by simpa using hm) (by simpa using hz)
def oIndex : D → D → Store → R D := fun x y S => match (itemsOf S x).bind toVs, toV y with
  | some vs, some w => match findV w vs with
    | some j => .ok (.int (j : Nat)) S
    | none => .bad
  | _, _ => .bad
def oCount : D → D → Store → R D := fun x y S => match (itemsOf S x).bind toVs, toV y with
  | some vs, some w => .ok (.int ((vs.countP fun z => eqV z w : Nat) : Int)) S
  | _, _ => .bad
def rCntF (K : PySem.W.Frag) : V → List V → Hp → VK → Prop := fun x xs H Q => ∃ (a : Addr) (ys : List V) (y : V), x = V.ref a ∧ xs = [y] ∧ SqL K H a ys ∧ flatV y = true ∧ ys.all flatV = true ∧ Q (.int ((ys.countP fun z => eqV z y : Nat) : Int)) H
theorem countU {y : V} {uy : Value} (ry : RelV y uy) (fy : flatV y = true) : ∀ {ys : List V} {its : List Value}, Vals ys its → ys.all flatV = true → its.countP (eqU y) = ys.countP fun z => eqV z y
  | [], [], .nil, _ => rfl
  | z :: zs, u :: us, .cons r rr, h => by
    have h' := Bool.and_eq_true_iff.mp h
    rw [List.countP_cons, List.countP_cons, countU ry fy rr h'.2, eqU_of r h'.1]
theorem mt_cntF : MtR X "list.count" (rCntF X.K) := by
  intro pins s σ H x xs v us Q I rx rxs h
  obtain ⟨a, ys, y, rfl, rfl, hs, fy, fys, q⟩ := h
  cases rx
  obtain ⟨uy, rfl, ry⟩ := rxs.one
  obtain ⟨its, rv, ⟨⟨cls, dd, data, sl⟩, n, ho, hc, hdn, hd⟩, hlen⟩ := I.list hs
  simp only at hc hd
  subst hc hd
  refine call_meets PySem.F.slot_list_count ⟨_, ho, rfl⟩ PySem.F.entry_list_count (PySem.F.args_list_count_2 _ _)
    (SeqAt.list_countAt a its.toArray n dd sl uy (eqU y)) ⟨ho, fun u' hu' => mem_eqAt ry fy rv fys u' (by simpa using hu'), ?_⟩
  have ec : its.toArray.toList.countP (eqU y) = ys.countP fun z => eqV z y := countU ry fy rv fys
  refine ⟨.int ((ys.countP fun z => eqV z y : Nat) : Int), H, I.tok _, ⟨s.toks, ?_⟩, q⟩
  rw [← ec]
/-- xs.m(y), xs a list that stays as it is -/
def cLm (f : D → D → Store → R D) (a b : CE) : CE := fun s S => (a s S).bind fun x S1 => match x with
  | .lst xs => (b s S1).bind fun y S2 => f (.lst xs) y S2
  | _ => .bad
section
variable {o e : Expr} {co ce : CE} {apos pos : Pos}
theorem e_count (ho : PE X o (rdE T W co)) (ha : PE X e (rdE T W ce))
    (hm : PE X o (rdE T W co) → PA X [e] (tCons (rdE T W ce) tNil) → PE X (.Call (.Attribute o "count" apos) [e] [] pos) (tBM X.K "list" (rCntF X.K) (rdE T W co) (tCons (rdE T W ce) tNil)) := by
      exact fun h1 h2 => pe_bm PySem.F.plainAttrs_list PySem.F.slot_list_count PySem.F.type_list_count mt_cntF h1 h2)
    (hst : starEach (e :: []) X.env = (false, eval e X.env) :: starEach [] X.env := by rfl) :
    PE X (.Call (.Attribute o "count" apos) [e] [] pos) (rdE T W (cLm oCount co ce)) := by
  refine pe_imp (hm ho (pa_cons ha pa_nil hst)) ?_
  rintro s H Q ⟨H0, I, B, z, S, a, h⟩
  refine bind (rep := Rp) (rep2 := Rp) (Q := Q) a h fun J B' H' S' v x g a1 r1 f1 => ?_
  cases x with
  | lst xs =>
    obtain ⟨b, vs, rfl, hb, hB, rv⟩ := Rp.lst a1.st r1
    refine ⟨listTy hb, ?_⟩
    refine bind (rep := Rp) (rep2 := Rp) (Q := Q) a1 f1 fun J2 B2 H2 S2 u y g2 a2 r2 f2 => ?_
    unfold oCount itemsOf at f2
    simp only [Option.bind] at f2
    cases q : toVs xs with
    | none => rw [q] at f2; exact f2.elim
    | some ws =>
      cases q2 : toV y with
      | none => rw [q, q2] at f2; exact f2.elim
      | some w =>
        rw [q, q2] at f2
        obtain ⟨rfl, fl⟩ := toVs_rp (rv.gr g2) q
        obtain ⟨rfl, fw⟩ := toV_rp r2 q2
        exact ⟨b, _, _, rfl, rfl, SqL.of (a2.st.sub _ _ (g2.ext _ _ hB)), fw, fl, f2.here a2.st rfl⟩
  | _ => exact f1.elim
theorem e_index (ho : PE X o (rdE T W co)) (ha : PE X e (rdE T W ce))
    (hm : PE X o (rdE T W co) → PA X [e] (tCons (rdE T W ce) tNil) → PE X (.Call (.Attribute o "index" apos) [e] [] pos) (tBM X.K "list" (rIndex X.K) (rdE T W co) (tCons (rdE T W ce) tNil)) := by
      exact fun h1 h2 => pe_bm PySem.F.plainAttrs_list PySem.F.slot_list_index PySem.F.type_list_index mt_index h1 h2)
    (hst : starEach (e :: []) X.env = (false, eval e X.env) :: starEach [] X.env := by rfl) :
    PE X (.Call (.Attribute o "index" apos) [e] [] pos) (rdE T W (cLm oIndex co ce)) := by
  refine pe_imp (hm ho (pa_cons ha pa_nil hst)) ?_
  rintro s H Q ⟨H0, I, B, z, S, a, h⟩
  refine bind (rep := Rp) (rep2 := Rp) (Q := Q) a h fun J B' H' S' v x g a1 r1 f1 => ?_
  cases x with
  | lst xs =>
    obtain ⟨b, vs, rfl, hb, hB, rv⟩ := Rp.lst a1.st r1
    refine ⟨listTy hb, ?_⟩
    refine bind (rep := Rp) (rep2 := Rp) (Q := Q) a1 f1 fun J2 B2 H2 S2 u y g2 a2 r2 f2 => ?_
    unfold oIndex itemsOf at f2
    simp only [Option.bind] at f2
    cases q : toVs xs with
    | none => rw [q] at f2; exact f2.elim
    | some ws =>
      cases q2 : toV y with
      | none => rw [q, q2] at f2; exact f2.elim
      | some w =>
        rw [q, q2] at f2
        dsimp only at f2
        cases q3 : findV w ws with
        | none => rw [q3] at f2; exact f2.elim
        | some j =>
          rw [q3] at f2
          obtain ⟨rfl, fl⟩ := toVs_rp (rv.gr g2) q
          obtain ⟨rfl, fw⟩ := toV_rp r2 q2
          obtain ⟨⟨z0, h1, h2⟩, h3⟩ := findV_at q3
          exact ⟨b, _, _, j, z0, rfl, rfl, SqL.of (a2.st.sub _ _ (g2.ext _ _ hB)), fw, fl, h1, h2, h3, f2.here a2.st rfl⟩
  | _ => exact f1.elim
end
end CL
set_option Elab.async false
set_option linter.all false
set_option maxRecDepth 100000
/-! CL19: small things that the printed texts ask. -/
namespace CL
open PySem PySem.Spec PyProof.Rows L2
variable [TheK]
theorem bt_len : bootBuiltins "len" = some (.builtin "len") := by decide +kernel
theorem bt_max : bootBuiltins "max" = some (.builtin "max") := by decide +kernel
theorem bt_min : bootBuiltins "min" = some (.builtin "min") := by decide +kernel
theorem bt_isinstance : bootBuiltins "isinstance" = some (.builtin "isinstance") := by decide +kernel
theorem bt_int : bootBuiltins "int" = some (.type "int") := by decide +kernel
theorem bt_str : bootBuiltins "str" = some (.type "str") := by decide +kernel
theorem bt_list : bootBuiltins "list" = some (.type "list") := by decide +kernel
theorem bt_tuple : bootBuiltins "tuple" = some (.type "tuple") := by decide +kernel
theorem bt_dict : bootBuiltins "dict" = some (.type "dict") := by decide +kernel
theorem bt_bool : bootBuiltins "bool" = some (.type "bool") := by decide +kernel
theorem bt_bytes : bootBuiltins "bytes" = some (.type "bytes") := by decide +kernel
theorem bt_ValueError : bootBuiltins "ValueError" = some (.type "ValueError") := by decide +kernel
section
variable {L : Tl} {T : Pm} {X : Cx} {W : WX}
theorem FnC.no {P : Program} {w : World} {K : PySem.W.Frag} {mg : Str → Option Value} {base : Heap} {k : Nat} {f : Addr} {fd : FuncData} {ps : List Str} : FnC P w K mg base L k f fd ps (fun _ _ => .bad) :=
  ⟨fun vs H Q E ⟨_, _, _, _, hl, _⟩ => hl, fun A outer s H args us vs Q E _ _ _ _ ⟨_, _, _, _, _, _, _, f⟩ => f.elim⟩
theorem i_seq {tg e : Expr} {ce : CE} (he : PE X e (rdE T W ce)) (hK : X.K = TheK.K := by rfl) : PI X tg e (rdI T W (CL.iSeq ce)) := by
  refine ⟨fun pins s σ H R I h => ?_⟩
  obtain ⟨H0, J, B, z, S, a, f⟩ := h
  unfold CL.iSeq at f
  cases q : ce z S with
  | bad => rw [q] at f; exact f.elim
  | exc x S' => exact (i_tup he).run pins s σ H R I ⟨H0, J, B, z, S, a, by unfold iSeqT; rw [q] at f ⊢; exact f⟩
  | ok d S' =>
    rw [q] at f
    cases d with
    | tup xs => exact (i_tup he).run pins s σ H R I ⟨H0, J, B, z, S, a, by unfold iSeqT; rw [q]; exact f⟩
    | lst xs => exact (i_lst he hK).run pins s σ H R I ⟨H0, J, B, z, S, a, by unfold iSeqL; rw [q]; exact f⟩
    | scr ns => exact (i_lst he hK).run pins s σ H R I ⟨H0, J, B, z, S, a, by unfold iSeqL; rw [q]; exact f⟩
    | _ => exact f.elim
end
end CL
namespace CL
open PySem PySem.Spec PyProof.Rows L2
variable [TheK]
section
variable {P : Program} {w : World} {K : PySem.W.Frag} {mg : Str → Option Value} {base : Heap} {x qual : Str} {st : Stmt} {f co : Addr} {fd : FuncData} {N ps : List Str} {k : Nat} {c : CS} {L : Tl}
/-- as fn_c, the def's code object known -/
theorem fn_cc (F : Fun K x qual st f fd) (S : FnScope N ps (defScope st)) (hcd : fd.code = .ref co)
    (hb : ∀ (A : Around) (outer : List Env) (s : Shared) (H : Hp) (E : XK) (I0 : List Addr) (B0 : Hp), Room k (A.deeper (envOfC qual (defScope st) s.heap.objs.size f (.ref co))) →
      PSs (cxOf (L2.CX P w) P w K mg base N qual (defScope st) f (.ref co) A outer s H E) (defBody st) (rdS ⟨L, none, none⟩ I0 B0 H (kW E) c)) :
    FnC P w K mg base L (k + 1) f fd ps (run N.length c) := by
  obtain ⟨oc, od, kV, doc, pm, an, cdv, ct, osl, rfl, lk, hcg⟩ := F.ex
  have e : cdv = .ref co := hcd
  subst e
  refine fn_of lk hcg S (fun vs H Q E h => ?_) (fun A outer s H vs Q E hr h => ?_)
  · obtain ⟨I, B, S, ds, hl, _⟩ := h
    exact hl
  · obtain ⟨I, B, S, ds, hl, r, st', f⟩ := h
    refine ⟨_, hb A outer s H E I B hr, I, B, _, S, Gr.refl I B H, start_at N st' r, ?_⟩
    unfold run at f
    cases q : c (ds.map SV.d ++ List.replicate (N.length - ds.length) SV.u) S with
    | nx z' S' => rw [q] at f; exact fun J B' H' s' g gb a => f J B' H' .non g a.st rfl
    | rt d S' => rw [q] at f; exact fun J B' H' v g gb st r => f J B' H' v g st r
    | exc x z' S' => rw [q] at f; exact fun J B' H' s' cc dd g gb a r => f J B' H' cc dd g a.st r
    | bk z' S' => rw [q] at f; exact f.elim
    | ct z' S' => rw [q] at f; exact f.elim
    | bad => rw [q] at f; exact f.elim
end
end CL
namespace CL
open PySem PySem.Spec PyProof.Rows L2
variable [TheK]
section
variable {P : Program} {w : World} {K : PySem.W.Frag} {mg : Str → Option Value} {base : Heap} {x qual : Str} {st : Stmt} {f co : Addr} {fd : FuncData} {N ps : List Str} {k : Nat} {c : CS} {L : Tl} {bd : List Stmt} {sc : Scope}
/-- as fn_c, the body and the scope written out -/
theorem fn_d (F : Fun K x qual st f fd) (hbd : defBody st = bd) (hsc : defScope st = sc) (S : FnScope N ps sc)
    (hb : ∀ (cdv : Value) (A : Around) (outer : List Env) (s : Shared) (H : Hp) (E : XK) (I0 : List Addr) (B0 : Hp), Room k (A.deeper (envOfC qual sc s.heap.objs.size f cdv)) →
      PSs (cxOf (L2.CX P w) P w K mg base N qual sc f cdv A outer s H E) bd (rdS ⟨L, none, none⟩ I0 B0 H (kW E) c)) :
    FnC P w K mg base L (k + 1) f fd ps (run N.length c) := by
  subst hbd hsc
  exact fn_c F S hb
theorem fn_dd (F : Fun K x qual st f fd) (hbd : defBody st = bd) (hsc : defScope st = sc) (S : FnScope N ps sc) (hcd : fd.code = .ref co)
    (hb : ∀ (A : Around) (outer : List Env) (s : Shared) (H : Hp) (E : XK) (I0 : List Addr) (B0 : Hp), Room k (A.deeper (envOfC qual sc s.heap.objs.size f (.ref co))) →
      PSs (cxOf (L2.CX P w) P w K mg base N qual sc f (.ref co) A outer s H E) bd (rdS ⟨L, none, none⟩ I0 B0 H (kW E) c)) :
    FnC P w K mg base L (k + 1) f fd ps (run N.length c) := by
  subst hbd hsc
  exact fn_cc F S hcd hb
/-- the body of a def that calls what was handed to it -/
theorem body_d {an : Str} {A : Around} {outer : List Env} {cdg : Value} {s : Shared} {H : Hp} {I0 : List Addr} {B0 : Hp} {FF : Option (Addr × List Addr × Hp × Hp)} {ac : CE} (hbd : defBody st = bd) (hsc : defScope st = sc)
    (h : Room k (A.deeper (envOfC qual sc s.heap.objs.size f cdg)) → (∀ (W : WX) (pn : List (Addr × Obj)) (xe : Value → Shared → Prop) (p1 p2 : Pos), Takes ((cxOf C8.CX0 P w K mg base N qual sc f cdg A outer s H C8.E0).tr pn xe) W → PE ((cxOf C8.CX0 P w K mg base N qual sc f cdg A outer s H C8.E0).tr pn xe) (.Call (.Name an p1) [] [] p2) (rdE ⟨L, none, FF⟩ W ac)) →
      PSs (cxOf C8.CX0 P w K mg base N qual sc f cdg A outer s H C8.E0).nox bd (rdS ⟨L, none, FF⟩ I0 B0 H wNo c))
    (hr : Room k (A.deeper (envOfC qual (defScope st) s.heap.objs.size f cdg))) (hac : ∀ (W : WX) (pn : List (Addr × Obj)) (xe : Value → Shared → Prop) (p1 p2 : Pos), Takes ((cxOf C8.CX0 P w K mg base N qual (defScope st) f cdg A outer s H C8.E0).tr pn xe) W → PE ((cxOf C8.CX0 P w K mg base N qual (defScope st) f cdg A outer s H C8.E0).tr pn xe) (.Call (.Name an p1) [] [] p2) (rdE ⟨L, none, FF⟩ W ac)) :
    PSs (cxOf C8.CX0 P w K mg base N qual (defScope st) f cdg A outer s H C8.E0).nox (defBody st) (rdS ⟨L, none, FF⟩ I0 B0 H wNo c) := by
  subst hbd hsc
  exact h hr hac
end
end CL
namespace CL
theorem lamS_d {sc ss ls : PySem.Scope} (h : sc = ss) (k : LamX.lamSB ss ls = true) : LamX.LamS sc ls := by subst h; exact LamX.lamS_by k
end CL
namespace CL
theorem iRange1_nat {c : CE} {z : Sl} {S S' : Store} {n : Nat} (h : c z S = .ok (.int n) S') (hn : n ≤ 1000) : CL.iRange1 c z S = .ok ((List.range' 0 n).map fun (k : Nat) => D.int (k : Int)) S' := by
  have hb : in62 (n : Int) = true := in62_of (Nat.lt_of_le_of_lt (by simpa using hn) (by decide +kernel : 1000 < 2 ^ 62))
  unfold CL.iRange1
  rw [h]
  simp only [CL.R.bind, hb, if_true, List.range_eq_range']
  simp
end CL
set_option Elab.async false
set_option linter.all false
set_option maxRecDepth 100000
/-! CL20: the end. -/
namespace CL
open PySem PySem.Spec PyProof.Rows L2
variable [TheK]
section
variable {K : PySem.W.Frag} {C D : Addr} {b : Bool}
theorem kitC (hd : PySem.W.hasDictIn K D = true) (ht : PySem.W.typeIn K (.ref D) = some (.type "type")) (h : PySem.W.subIn K (.ref C) (.ref D) = some b) : PySem.W.kitCls K (.ref C) (.ref D) = some b := by
  obtain ⟨cd, hc, _⟩ := PySem.W.any_some hd
  show (if ((PySem.W.clsIn K D).isSome && PySem.W.typeIn K (.ref D) == some (.type "type")) = true then PySem.W.subIn K (.ref C) (.ref D) else none) = some b
  rw [hc, ht]
  exact h
theorem kit_self : PySem.W.kitOne K (.ref C) (.ref C) = some true := by
  unfold PySem.W.kitOne
  rw [if_pos (by simp)]
theorem kit_own (hd : PySem.W.hasDictIn K D = true) (ht : PySem.W.typeIn K (.ref D) = some (.type "type")) (hs : PySem.W.subIn K (.ref C) (.ref C) = some true) (h : PySem.W.subIn K (.ref C) (.ref D) = some b) : PySem.W.kitOne K (.ref C) (.ref D) = some b := by
  by_cases e : C = D
  · subst e
    rw [hs] at h; cases h
    exact kit_self
  · unfold PySem.W.kitOne
    rw [if_neg (by simpa using e)]
    exact kitC hd ht h
theorem kit_type {T : String} (hm : PySem.W.kitMeta T = true) (h : PySem.W.subIn K (.ref C) (.type T) = some b) : PySem.W.kitOne K (.ref C) (.type T) = some b := by
  unfold PySem.W.kitOne
  rw [if_neg (by simp)]
  show (if PySem.W.kitMeta T = true then PySem.W.subIn K (.ref C) (.type T) else none) = some b
  rw [if_pos hm]
  exact h
theorem exm_own (hx : PySem.W.subIn K (.ref D) (.type "BaseException") = some true) (hd : PySem.W.hasDictIn K D = true) (ht : PySem.W.typeIn K (.ref D) = some (.type "type")) (h : PySem.W.subIn K (.ref C) (.ref D) = some b) : PySem.W.exmOne K (.ref C) (.ref D) = some b := by
  unfold PySem.W.exmOne
  rw [if_pos (by rw [hx]; rfl)]
  exact kitC hd ht h
end
section
variable {l : PySem.W.OpenLaw} {w : World} {k n : Nat} {x q : Str} {mg : Str → Option Value} {fa c P : Addr} {h : Heap} {fd : FuncData} {g : G}
/-- a law that makes lambdas itself: what is to be shown of its piece -/
theorem law_at (hT : h.get? P = some { cls := .none, data := .fields #[] }) (nT : TheK.K.lookup P = none) (C : PySem.W.CodeHd h c P) (hb : ∀ (s : Shared) (u : Value), BindsTo s fd ⟨[u], []⟩ [(x, u)])
    (hg : ∀ ns : List Int, ns.length ≤ n → ∃ S', g [.scr ns] [] = .ok (.bl true) S')
    (hF : ∀ base : Heap, TheK.K.In base → base.Ns mainGlobals mg → LamX.TabB base mg c P → FnC l.prog w TheK.K mg base (tabsOf [(P, q)], []) k fa fd [x] g) :
    LamX.LawAtS l w TheK.K (L2.CX l.prog w) k n x mg fa h := by
  refine ⟨fd, [(c, P)], spG (tabsOf [(P, q)], []) 1 g, fun p hp => ?_, fun p hp => ?_, fun p hp => ?_, hb, fun H a ns hl _ hH hS => ?_, fun base k1 k2 k3 => hF base k1 k2 (k3 (c, P) (by simp))⟩
  · have e : p = (c, P) := by simpa using hp
    subst e; exact hT
  · have e : p = (c, P) := by simpa using hp
    subst e; exact nT
  · have e : p = (c, P) := by simpa using hp
    subst e; exact C
  · obtain ⟨S', e⟩ := hg ns hl
    have tab : NdefX.TabsN (tabsOf [(P, q)]) H := fun p hp => by
      have e : p = (P, fun _ _ => q) := by simpa [tabsOf] using hp
      subst e
      exact NdefX.TabN.nil (hH (c, P) (by simp))
    have start : ∃ B : Hp, (∀ a o, B a = some o → H a = some o) ∧ (∀ a o, B a = some o → ∀ ps, o ≠ .tbl ps) ∧ (Rd B a (.lst (ns.map V.int)) ∨ KLst a ns) := by
      rcases hS with hS | ⟨o, its, m, hk⟩
      · rcases hS with h1 | ⟨o, h1⟩
        · refine ⟨fun b => if b = a then H a else none, fun b u hb => ?_, fun b u hb => ?_, .inl (.inl ?_)⟩
          · by_cases e : b = a
            · subst e; simpa using hb
            · simp [e] at hb
          · by_cases e : b = a
            · subst e
              simp [h1] at hb
              subst hb
              intro ps z; cases z
            · simp [e] at hb
          · simp [h1]
        · refine ⟨fun b => if b = a then H a else none, fun b u hb => ?_, fun b u hb => ?_, .inl (.inr ⟨o, ?_⟩)⟩
          · by_cases e : b = a
            · subst e; simpa using hb
            · simp [e] at hb
          · by_cases e : b = a
            · subst e
              simp [h1] at hb
              subst hb
              intro ps z; cases z
            · simp [e] at hb
          · simp [h1]
      · exact ⟨fun _ => none, fun _ _ z => (by cases z), fun _ _ z => (by cases z), .inr ⟨o, its, m, hk⟩⟩
    obtain ⟨B, b1, b2, b3⟩ := start
    refine ⟨[], B, [], [.scr ns], rfl, ⟨⟨a, rfl, b3⟩, trivial⟩, ⟨rfl, List.nodup_nil, fun _ z => (by cases z), b1, b2, fun i m z => (by simp at z), tab, fun p hp => (by cases hp)⟩, ?_⟩
    rw [e]
    exact fun J B' H' v _ _ r => r
end
end CL
set_option Elab.async false
set_option linter.all false
set_option maxRecDepth 100000
set_option maxHeartbeats 2000000
/-! CL21: texts: split, join, signs, order, int(text); lists turned round; first, *rest = a list. -/
namespace CL
open PySem PySem.Spec PyProof.Rows L2
variable [TheK]
variable {L : Tl} {T : Pm} {X : Cx} {W : WX}
/-- the texts of a list -/
def strsOf : List D → Option (List Str)
  | [] => some []
  | .str z :: xs => (strsOf xs).map (z :: ·)
  | _ :: _ => none
theorem strsOf_rps {I : List Addr} {B : Hp} : ∀ {vs : List V} {xs : List D} {ys : List Str}, Rps I B vs xs → strsOf xs = some ys → vs = ys.map V.str
  | [], [], ys, _, e => by unfold strsOf at e; cases e; rfl
  | v :: vs, x :: xs, ys, r, e => by
    cases x with
    | str z =>
      unfold strsOf at e
      cases q : strsOf xs with
      | none => rw [q] at e; cases e
      | some zs =>
        rw [q] at e; cases e
        have h1 : v = .str z := r.1
        rw [h1, strsOf_rps r.2 q]; rfl
    | _ => cases e
  | [], _ :: _, _, r, _ => r.elim
  | _ :: _, [], _, r, _ => r.elim
theorem rps_strs {I : List Addr} {B : Hp} : ∀ ys : List Str, Rps I B (ys.map V.str) (ys.map D.str)
  | [] => trivial
  | _ :: ys => ⟨rfl, rps_strs ys⟩
theorem strsOf_map : ∀ ys : List Str, strsOf (ys.map D.str) = some ys
  | [] => rfl
  | y :: ys => by simp [strsOf, strsOf_map ys]
/-- z.m(y), z a text -/
def cSm (f : Str → D → Store → R D) (a b : CE) : CE := fun s S => (a s S).bind fun x S1 => match x with
  | .str z => (b s S1).bind fun y S2 => f z y S2
  | _ => .bad
def oSplit (z : Str) : D → Store → R D := fun y S => match y with
  | .str b => if (b.length == 0) = false ∧ z.length ≤ 16000000 then .ok (.lst ((Txt.split z b).map D.str)) S else .bad
  | _ => .bad
def oJoin (z : Str) : D → Store → R D := fun y S => match itemsOf S y with
  | some xs => match strsOf xs with
    | some ys => if (ys.map (·.length)).sum + ys.length * z.length ≤ 16777216 then .ok (.str (Txt.join z ys)) S else .bad
    | none => .bad
  | none => .bad
section
variable {o e : Expr} {co ce : CE} {apos pos : Pos}
theorem e_split (ho : PE X o (rdE T W co)) (he : PE X e (rdE T W ce)) (hs : starEach [e] X.env = [(false, eval e X.env)] := by rfl) (hbase : attributeBase o "split" X.env (eval o X.env) = eval o X.env := by rfl) (hline : (apos.endLine == pos.line) = true := by rfl) :
    PE X (.Call (.Attribute o "split" apos) [e] [] pos) (rdE T W (cSm oSplit co ce)) := by
  refine pe_imp (pe_split ho he hs hbase hline) ?_
  rintro s H Q ⟨H0, I, B, z, S, a, h⟩
  refine bind (rep := Rp) (rep2 := Rp) (Q := Q) a h fun J B' H' S' v x g a1 r1 f1 => ?_
  cases x with
  | str t =>
    cases r1
    refine ⟨⟨t, rfl⟩, ?_⟩
    refine bind (rep := Rp) (rep2 := Rp) (Q := Q) a1 f1 fun J2 B2 H2 S2 u y g2 a2 r2 f2 => ?_
    cases y with
    | str b =>
      cases r2
      unfold oSplit at f2
      dsimp only at f2
      split at f2
      · rename_i hc
        refine ⟨t, b, rfl, rfl, hc.1, ?_, fun p hp => f2.newL a2.st (rps_strs _) hp⟩
        rw [sizeLine_eq]; have := hc.2; omega
      · exact f2.elim
    | _ => exact f2.elim
  | _ => exact f1.elim
theorem e_join (ho : PE X o (rdE T W co)) (he : PE X e (rdE T W ce)) (hs : starEach [e] X.env = [(false, eval e X.env)] := by rfl) (hbase : attributeBase o "join" X.env (eval o X.env) = eval o X.env := by rfl) (hline : (apos.endLine == pos.line) = true := by rfl) (hK : X.K = TheK.K := by rfl) :
    PE X (.Call (.Attribute o "join" apos) [e] [] pos) (rdE T W (cSm oJoin co ce)) := by
  refine pe_imp (pe_join ho he hs hbase hline) ?_
  rintro s H Q ⟨H0, I, B, z, S, a, h⟩
  refine bind (rep := Rp) (rep2 := Rp) (Q := Q) a h fun J B' H' S' v x g a1 r1 f1 => ?_
  cases x with
  | str t =>
    cases r1
    refine ⟨⟨t, rfl⟩, ?_⟩
    refine bind (rep := Rp) (rep2 := Rp) (Q := Q) a1 f1 fun J2 B2 H2 S2 u y g2 a2 r2 f2 => ?_
    unfold oJoin at f2
    split at f2
    · rename_i xs e1
      split at f2
      · rename_i ys e2
        split at f2
        · rename_i hc
          obtain ⟨c, vs, rfl, hq, rv⟩ := items hK a2.st r2 e1
          have := strsOf_rps rv e2
          subst this
          exact ⟨t, c, ys, rfl, rfl, hq, hc, f2.here a2.st rfl⟩
        · exact f2.elim
      · exact f2.elim
    · exact f2.elim
  | _ => exact f1.elim
/-- int(e), e a text -/
def bIntS : List D → Store → R D := fun vs S => match vs with
  | [.str z] => match PySem.intText? z with
    | some n => if z.length ≤ 640 then .ok (.int n) S else .bad
    | none => .bad
  | _ => .bad
theorem k_intS : OkA L (fun xs H Q => ∃ a n, xs = [.str a] ∧ PySem.intText? a = some n ∧ a.length ≤ 640 ∧ Q (.int n) H) bIntS := by
  intro W s I B H Q S vs xs st r f
  unfold bIntS at f
  split at f
  · obtain ⟨v, rfl, rv⟩ := r.one
    cases rv
    split at f
    · rename_i n e
      split at f
      · rename_i hl
        exact ⟨_, n, rfl, e, hl, f.here st rfl⟩
      · exact f.elim
    · exact f.elim
  · exact f.elim
end
/-! ### signs -/
def oInS (neg : Bool) : D → D → Store → R D := fun x y S => match x, y with
  | .str t, .str z => match t.cps.toList with
    | [c] => .ok (.bl (if neg then !decide (c ∈ z.cps.toList) else decide (c ∈ z.cps.toList))) S
    | _ => .bad
  | _, _ => .bad
theorem one_sign {t : Str} {c : Nat} (h : t.cps.toList = [c]) : t = ⟨#[c]⟩ := TL.ext_tl h
theorem k_inS : Ok2 L (fun x y H Q => ∃ (c : Nat) (z : Str), x = .str ⟨#[c]⟩ ∧ y = .str z ∧ Q (.bl (decide (c ∈ z.cps.toList))) H) (oInS false) := by
  intro W s I B H Q S v u x y st rx ry f
  unfold oInS at f
  split at f
  · rename_i t z
    cases rx; cases ry
    split at f
    · rename_i c hc
      rw [one_sign hc]

      exact ⟨c, z, rfl, rfl, f.here st rfl⟩
    · exact f.elim
  · exact f.elim
theorem k_notInS : Ok2 L (fun x y H Q => ∃ (c : Nat) (z : Str), x = .str ⟨#[c]⟩ ∧ y = .str z ∧ Q (.bl (!decide (c ∈ z.cps.toList))) H) (oInS true) := by
  intro W s I B H Q S v u x y st rx ry f
  unfold oInS at f
  split at f
  · rename_i t z
    cases rx; cases ry
    split at f
    · rename_i c hc
      rw [one_sign hc]

      exact ⟨c, z, rfl, rfl, f.here st rfl⟩
    · exact f.elim
  · exact f.elim
def oLeS : D → D → Store → R D := fun x y S => match x, y with
  | .str i, .str j => .ok (.bl (!decide (j.cps.toList < i.cps.toList))) S
  | _, _ => .bad
theorem k_leS : Ok2 L (fun x y H Q => ∃ i j, x = .str i ∧ y = .str j ∧ Q (.bl (!decide (j.cps.toList < i.cps.toList))) H) oLeS := by
  intro W s I B H Q S v u x y st rx ry f
  unfold oLeS at f
  split at f
  · cases rx; cases ry
    exact ⟨_, _, rfl, rfl, f.here st rfl⟩
  · exact f.elim
def oIxS : D → D → Store → R D := fun x y S => match x, y with
  | .str z, .int i => if z.length ≤ 16777216 then match L2.atI z.cps.toList i with
    | some c => .ok (.str ⟨#[c]⟩) S
    | none => .bad else .bad
  | _, _ => .bad
theorem k_ixS : Ok2 L rIxS oIxS := by
  intro W s I B H Q S v u x y st rx ry f
  unfold oIxS at f
  split at f
  · rename_i z i
    cases rx; cases ry
    split at f
    · rename_i hl
      split at f
      · rename_i c e
        exact ⟨z, i, c, rfl, rfl, line_le hl, e, f.here st rfl⟩
      · exact f.elim
    · exact f.elim
  · exact f.elim
theorem e_ixS {a b : Expr} {ca cb : CE} {pos : Pos} (ha : PE X a (rdE T W ca)) (hb : PE X b (rdE T W cb)) (hs : PlainIx b := by exact fun _ _ => rfl) : PE X (.Subscript a b pos) (rdE T W (c2 oIxS ca cb)) :=
  pe_imp (pe_ix ix_str ha hb hs) fun _ _ _ h => two k_ixS h
/-- a text walked -/
def iStrC (c : CE) : CA := fun z S => (c z S).bind fun d S' => match d with
  | .str t => .ok (t.cps.toList.map fun c => D.str ⟨#[c]⟩) S'
  | _ => .bad
theorem Wk.str {t : Str} {I : List Addr} {B : Hp} : Wk L (Its t) I B (t.cps.toList.map fun c => D.str ⟨#[c]⟩) := by
  have hsz : t.cps.toList.length = t.cps.size := by simp
  refine ⟨fun i g st h => (walk_str (z := t)).goes i _ (by simpa using h) trivial, fun g st => ?_, fun {I' B' H S} i {x H' d} g st y e => ?_⟩
  · simp only [List.length_map, hsz]
    exact (walk_str (z := t)).stops _ trivial
  · have hi : i < t.cps.size := by simpa using (List.getElem?_eq_some_iff.mp e).1
    obtain ⟨e1, c, e2, e3⟩ := (walk_str (z := t)).yields i _ _ _ hi trivial y
    subst e1 e3
    have e4 : d = .str ⟨#[c]⟩ := by
      rw [List.getElem?_map, Array.getElem?_toList, e2] at e
      cases e; rfl
    subst e4
    exact ⟨I', B', Gr.refl _ _ _, st, rfl⟩
theorem i_str {tg e : Expr} {ce : CE} (he : PE X e (rdE T W ce)) : PI X tg e (rdI T W (iStrC ce)) := by
  refine pi_imp (pi_str he) ?_
  rintro s H R ⟨H0, I, B, z, S, a, h⟩
  refine bindI (rep := Rp) a h fun J B' H' S' v x g a1 r1 f1 => ?_
  cases x with
  | str t => exact ⟨t, r1, f1 J B' H' _ (Gr.refl _ _ _) a1.st Wk.str⟩
  | _ => exact f1.elim
/-! ### a list turned round -/
def oRev : D → Store → R D := fun x S => match x with
  | .lst xs => .ok (.lst xs.reverse) S
  | _ => .bad
theorem e_rev {e : Expr} {ce : CE} {k : Nat} {p1 p2 p3 pos : Pos} (he : PE X e (rdE T W ce)) : PE X (.Subscript e (.Slice none none (some (.UnaryOp .USub (.Constant (.int 1) k p1) p2)) p3) pos) (rdE T W (c1 oRev ce)) := by
  refine pe_imp (pe_revL he) ?_
  rintro s H Q ⟨H0, I, B, z, S, a, h⟩
  refine bind (rep := Rp) (rep2 := Rp) (Q := Q) a h fun J B' H' S' v x g a1 r1 f1 => ?_
  cases x with
  | lst xs =>
    obtain ⟨c, vs, rfl, hc, _, rv⟩ := Rp.lst a1.st r1
    exact ⟨c, vs, rfl, SqL.of hc, fun p hp => f1.newL a1.st rv.rev hp⟩
  | _ => exact f1.elim
end CL
set_option Elab.async false
set_option linter.all false
set_option maxRecDepth 100000
set_option maxHeartbeats 2000000
/-! CL22: cls(..), classmethods, first, *rest = a list. -/
namespace CL
open PySem PySem.Spec PyProof.Rows L2
variable [TheK]
variable {L : Tl} {T : Pm} {X : Cx} {W : WX}
section
variable {k : Nat} {f C : Addr} {fd : FuncData} {ps : List Str} {g : G} {x m : Str} {p pos apos : Pos} {e o : Expr} {es : List Expr} {co ce : CE} {ca : CA} {E : XK}
/-- c(e, ..), the class C in the name c -/
def cMakeL (i : Nat) (C : Addr) (g : G) (ca : CA) : CE := fun z S => match z[i]? with
  | some (.d (.ref c)) => if c = C then cMake C g ca z S else .bad
  | _ => .bad
def tMakeL (i : Nat) (C : Addr) (sp : Sp) (E : XK) (t : TA) : TE := fun σ H Q => σ[i]? = some (some (.ref C)) ∧ L2.tMake C sp [] E t σ H Q
theorem pe_makeL {CX : CXT} {sp : Sp} {t : TA} {i : Nat} (M : Mk X.K C f) (F : FnOk X.prog X.w X.K X.mg X.base CX k f fd ps sp) (hr : Room (k + 1) X.A) (hN : X.N[i]? = some x) (hv : Vis X.env.scope x) (hb : L2.Binds X.K fd ps []) (hx : Passes CX X E) (ha : PA X (e :: es) t)
    (hdb : (x == ("__debug__" : Str)) = false := by decide) (hcd : (x == ("__classdict__" : Str)) = false := by decide) (he : starEach (e :: es) X.env = (false, eval e X.env) :: starEach es X.env := by rfl) (hpl : (backTo pos (starEach es X.env)).any (·.1) = false := by rfl) :
    PE X (.Call (.Name x p) (e :: es) [] pos) (tMakeL i C sp E t) := by
  refine ⟨fun pins s σ H Q I h => ?_⟩
  obtain ⟨h1, h2⟩ := h
  refine wpAny_Call_Name_kw (thn ((pe_var (pos := p) hN hv hdb hcd).run pins s σ H (fun v Hv => v = .ref C ∧ Hv = H) I ⟨.ref C, h1, rfl, rfl⟩) fun u s1 ⟨v, H1, I1, r1, q1⟩ => ?_)
  obtain ⟨rfl, rfl⟩ := q1
  cases r1
  refine PySem.W.callWith_K (h₀ := X.base) I.ok.mod.kin M.kp (thn (ha.run pos pins s1 σ _ _ I1 h2) fun us s2 ⟨vs, H2, I2, r2, q2⟩ => ⟨I2.kIn, ?_⟩) he hpl
  exact run_make M F hr hb .nil hx I2 r2 q2
theorem e_makeL {i : Nat} (M : Mk X.K C f) (F : FnC X.prog X.w X.K X.mg X.base T.tabs k f fd ps g) (hr : Room (k + 1) X.A) (hN : X.N[i]? = some x) (hv : Vis X.env.scope x) (hb : L2.Binds X.K fd ps []) (hx : Passes (L2.CX X.prog X.w) X E) (ha : PA X (e :: es) (rdA T (kW E) ca)) {n : Nat} (hn : AN ca n) (hp : ps.length = n + 1)
    (hdb : (x == ("__debug__" : Str)) = false := by decide) (hcd : (x == ("__classdict__" : Str)) = false := by decide) (he : starEach (e :: es) X.env = (false, eval e X.env) :: starEach es X.env := by rfl) (hpl : (backTo pos (starEach es X.env)).any (·.1) = false := by rfl) :
    PE X (.Call (.Name x p) (e :: es) [] pos) (rdE T (kW E) (cMakeL i C g ca)) := by
  refine pe_imp (pe_makeL M F hr hN hv hb hx ha hdb hcd he hpl) ?_
  rintro s H Q ⟨H0, I, B, z, S, a, h⟩
  unfold cMakeL at h
  split at h
  · rename_i c e1
    split at h
    · rename_i hc
      subst hc
      obtain ⟨o, h1, v, rfl, h3⟩ := a.sl.get e1
      have h4 : v = .ref c := h3
      subst h4
      exact ⟨h1, make_read hn hp ⟨H0, I, B, z, S, a, h⟩⟩
    · exact h.elim
  · exact h.elim
/-- C.m(e, ..), a classmethod -/
def cCmeth (C : Addr) (g : G) (o : CE) (ca : CA) : CE := fun z S => (o z S).bind fun d S1 => match d with
  | .ref c => if c = C then (ca z S1).bind fun xs S2 => g (.ref C :: xs) S2 else .bad
  | _ => .bad
theorem e_cmeth {mc : Value} {q : Addr} {pl : Sem Bool} (he : PE X o (rdE T (kW E) co)) (r : ClX.CRead X.K C mc) (c : ClX.CMet X.K C mc m q f) (F : FnC X.prog X.w X.K X.mg X.base T.tabs k f fd ps g) (hr : Room k X.A) (hb : L2.Binds X.K fd ps []) (hx : Passes (L2.CX X.prog X.w) X E) (ha : PA X (e :: es) (rdA T (kW E) ca)) {n : Nat} (hn : AN ca n) (hp : ps.length = n + 1)
    (hst : starEach (e :: es) X.env = (false, eval e X.env) :: starEach es X.env := by rfl) (hpl : (backTo pos (starEach es X.env)).any (·.1) = false := by rfl)
    (ht : eval (.Call (.Attribute o m apos) (e :: es) [] pos) X.env = (do
      let ov ← eval o X.env
      standAt apos.atName
      let (f, first) ← holding [ov] (getMethod ov m pl)
      callWith pos f first (backTo pos (starEach (e :: es) X.env)) (backToKw pos (keywordEach [] X.env))) := by rfl) :
    PE X (.Call (.Attribute o m apos) (e :: es) [] pos) (rdE T (kW E) (cCmeth C g co ca)) := by
  have F2 := (FnOk.raw F hb .nil).imp (sp' := spG T.tabs ps.length g) fun vs H Q E h => by rw [List.append_nil]; exact h
  refine pe_imp (ClX.pe_cmeth (pl := pl) he r c F2 hr hx ha hst hpl ht) ?_
  rintro s H Q ⟨H0, I, B, z, S, a, h⟩
  refine bind (rep := Rp) (rep2 := Rp) (Q := Q) a h fun J B' H' S' v d g1 a1 r1 f1 => ?_
  cases d with
  | ref b =>
    dsimp only at f1
    by_cases hC : b = C
    · rw [if_pos hC] at f1
      subst hC
      refine ⟨r1, ?_⟩
      have hn' := hn z S'
      cases q2 : ca z S' with
      | ok ys S2 =>
        refine ⟨H0, J, B', z, S', a1, ?_⟩
        rw [q2] at f1 ⊢
        exact fun J2 B2 H2 us g2 st r => call_sp (W := kW E) (s := s) (ds := .ref b :: ys) (by simp [r.len, hn' ys S2 q2, hp]) (a1.gr g2 st) ⟨rfl, r⟩ (f1.gr g2) fun _ _ _ h => h
      | exc x S2 =>
        refine ⟨H0, J, B', z, S', a1, ?_⟩
        rw [q2] at f1 ⊢
        exact f1
      | bad => rw [q2] at f1; exact f1.elim
    · rw [if_neg hC] at f1; exact f1.elim
  | _ => exact f1.elim
end
/-! ### first, *rest = a list -/
section
variable {prog : Program} {w : World} {A : Around} {E : Value → Shared → Prop} {s : Shared} {a : Addr} {its : Array Value} {j : Nat}
theorem star_items {Q : List Value → Shared → Prop} (hh : A.handled = none) (il : s.heap.IsList a its) (hj : j ≤ its.size) (hz : its.size ≤ sizeLine)
    (hQ : ∀ hp tk, Heap.ExtBut s.heap.objs.size s.heap hp → Q (its.toList.take j ++ [.ref hp.objs.size]) { s with heap := hp.push { cls := .type "list", data := .seq (its.toList.drop j).toArray }, toks := tk }) :
    wpAny (model prog w) A (unpackItems (.ref a) (j + 1) (some j)) Q E s := by
  have ne : a ≠ s.heap.objs.size := let ⟨o, ho, _⟩ := il; Nat.ne_of_lt (Heap.lt_size ho)
  unfold unpackItems; refine wpAny_bind ?_
  unfold notIterableAtAll
  refine wpAny_bind (wpAny_specialOf il.typeIs slot_list_iter.lookup (wpAny_pure ?_))
  simp only [if_false, Bool.false_eq_true]
  refine wpAny_bind (wpAny_holding (wpAny_pyIter_list il ?_))
  refine wpAny_bind (wpAny_holding (PySem.W.kun_draw ne j 0 _ _ ⟨_, Heap.get?_push_size _ rfl, rfl, rfl⟩ (il.push _) (by omega) fun hp1 it1 sb1 => ?_))
  have il1 : hp1.IsList a its := (il.push _).extBut sb1.extBut ne
  rw [Nat.zero_add] at it1
  obtain ⟨o1, ho1, _⟩ := id it1
  obtain ⟨o2, ho2, _⟩ := id il1
  rw [List.drop_zero]
  have lt1 : (its.toList.take j).length = j := by simp; omega
  rw [if_neg (show ¬ ((its.toList.take j).length < j) by omega)]
  refine wpAny_bind (wpAny_holding (PySem.W.kun_collect (s := { s with heap := hp1 }) (k := j) (T := "list_iterator") (.inr (.inr (.inl rfl))) (Walks.list (A := A.in1) hh s.heap.objs.size a ne its) (fun _ _ st => st.1.typeIs) (by omega) ⟨it1, il1⟩ (Heap.lt_size ho1) (Heap.lt_size ho2) (fun hp2 tk hk => ?_) hz))
  have e0 : j + 1 - 1 - j = 0 := by omega
  have e1 : (its.toList.drop j).length = its.size - j := by simp
  show wpAny _ _ (if (its.toList.drop j).length < j + 1 - 1 - j then _ else _) _ _ _
  rw [e0, if_neg (Nat.not_lt_zero _)]
  show wpAny _ _ (newList ((its.toList.drop j).take ((its.toList.drop j).length - 0)) >>= fun d => pure (its.toList.take j ++ [d] ++ (its.toList.drop j).drop ((its.toList.drop j).length - 0))) _ _ _
  rw [Nat.sub_zero, List.take_length, List.drop_length]
  have ex : Heap.ExtBut s.heap.objs.size s.heap hp2 := fun b o hb q => hk b o hb (sb1.extBut b o hb (Heap.get?_push_of_some _ q))
  refine wpAny_bind (wpAny_newList (s := { s with heap := hp2, toks := tk }) (wpAny_pure ?_) (by rw [e1]; omega))
  rw [List.append_nil]
  exact hQ hp2 tk ex
end
/-- (t, .., *r) = a list of at least that many -/
def gStarL (K : PySem.W.Frag) (j : Nat) (t : TGs) : TG := fun v σ H Q => ∃ a xs, v = .ref a ∧ SqL K H a xs ∧ j ≤ xs.length ∧ ∀ p, H p = none → t (xs.take j ++ [.ref p]) σ (upd H p (.lst (xs.drop j))) Q
theorem vals_take : ∀ {vs : List V} {us : List Value} (n : Nat), Vals vs us → Vals (vs.take n) (us.take n)
  | [], [], n, _ => by simpa using Paired.nil
  | v :: vs, u :: us, 0, _ => .nil
  | v :: vs, u :: us, n + 1, .cons r rr => .cons r (vals_take n rr)
theorem vals_drop : ∀ {vs : List V} {us : List Value} (n : Nat), Vals vs us → Vals (vs.drop n) (us.drop n)
  | [], [], n, _ => by simpa using Paired.nil
  | v :: vs, u :: us, 0, h => h
  | v :: vs, u :: us, n + 1, .cons r rr => vals_drop n rr
theorem pgs_star {e : Expr} {es : List Expr} {t : TG} {u : TGs} {p : Pos} (h1 : PG X e t) (h2 : PGs X es u)
    (hs : (assignEach (.Starred e p :: es) X.env).map (·.2) = assign e X.env :: (assignEach es X.env).map (·.2) := by rfl) : PGs X (.Starred e p :: es) (L2.gCons t u) := by
  refine ⟨fun pins s σ H vs us Q I r h => ?_⟩
  obtain ⟨v, vr, e1, h⟩ := h
  subst e1
  cases r with
  | cons r rr =>
    rw [hs]
    exact assignInOrder_cons (thn (h1.run pins s σ H _ _ _ I r h) fun _ s1 ⟨σ1, H1, I1, q1⟩ => h2.run pins s1 σ1 H1 _ _ Q I1 rr q1)
theorem pg_starL {es : List Expr} {k j : Nat} {t : TGs} {pos : Pos} (hc : X.calm = true) (h : PGs X es t)
    (hn : (assignEach es X.env).length = j + 1 := by rfl) (hst : (assignEach es X.env).findIdx? (·.1) = some j := by rfl) : PG X (.Tuple es k pos) (gStarL X.K j t) := by
  refine ⟨fun pins s σ H v u Q I r hw => ?_⟩
  obtain ⟨a, xs, rfl, hq, hl, hw⟩ := hw
  cases r
  obtain ⟨its, rv, ⟨o, m, e, c, d, q⟩, hz⟩ := I.list hq
  have il : s.heap.IsList a its.toArray := ⟨o, e, c, m, q⟩
  rw [PyProof.Rows.assign_Tuple]
  refine wpAny_bind (wpAny_standAt ?_)
  unfold unpack
  rw [hn, hst]
  have hz' : xs.length = its.length := rv.length
  refine wpAny_bind (wpAny_holding (star_items (I.ok.hd hc) il (by simp; omega) (by simp; omega) fun hp tk ex => ?_))
  have I1 : Inv X pins σ H { s with heap := hp, toks := tk } := I.kept (t' := tk) fun b o e => ex b o (Nat.ne_of_lt (Heap.lt_size e)) e
  have fr : H hp.objs.size = none := I1.hok.fresh (Nat.le_refl _)
  have rd : Vals (xs.drop j) (its.drop j) := vals_drop j rv
  have I2 := I1.laid (t' := tk) (a := hp.objs.size) (o := .lst (xs.drop j)) (h' := hp.push { cls := .type "list", data := .seq (its.toArray.toList.drop j).toArray }) (fun b ob q => Heap.get?_push_of_some _ q) (Nat.le_refl _) ⟨by simp; omega, its.drop j, 0, rd, by simpa using Heap.get?_push_size _ rfl⟩
  exact h.run pins _ σ _ _ _ Q I2 (by
    have := (vals_take j rv).append (.cons (show RelV (.ref hp.objs.size) (.ref hp.objs.size) from rfl) .nil)
    simpa using this) (hw _ fr)
/-- x, *y = a list -/
def sStar (i j : Nat) (c : CE) : CS := fun z S => oDo (c z S) z fun d S' => match d with
  | .lst (x :: xs) => .nx ((z.set i (.d x)).set j (.d (.lst xs))) S'
  | _ => .bad
section
variable {I0 : List Addr} {B0 H0 : Hp} {e : Expr} {ce : CE} {x y : Str} {i j : Nat} {px py ps pt pos : Pos} {k : Nat}
theorem s_star (hc : X.calm = true) (hN : X.N.Nodup) (hi : X.N[i]? = some x) (hj : X.N[j]? = some y) (hx : Loc X.env.scope x) (hy : Loc X.env.scope y) (he : PE X e (rdE T W ce))
    (hs : swapsWithSole [.Tuple [.Name x px, .Starred (.Name y py) ps] k pt] e pos.line X.env = pure false := by rfl) (hw : swappedStores [.Tuple [.Name x px, .Starred (.Name y py) ps] k pt] e X.env = pure none := by rfl)
    (h1 : (assignEach [.Tuple [.Name x px, .Starred (.Name y py) ps] k pt] X.env).map (·.2) = [assign (.Tuple [.Name x px, .Starred (.Name y py) ps] k pt) X.env] := by rfl)
    (fx : X.fn x = true ∨ X.env.scope.names.lookup x = some .local := by first | exact .inl rfl | exact .inr rfl) (fy : X.fn y = true ∨ X.env.scope.names.lookup y = some .local := by first | exact .inl rfl | exact .inr rfl)
    (hn : (assignEach [.Name x px, .Starred (.Name y py) ps] X.env).length = 1 + 1 := by rfl) (hst : (assignEach [.Name x px, .Starred (.Name y py) ps] X.env).findIdx? (·.1) = some 1 := by rfl)
    (q1 : (assignEach [.Name x px, .Starred (.Name y py) ps] X.env).map (·.2) = assign (.Name x px) X.env :: (assignEach [.Starred (.Name y py) ps] X.env).map (·.2) := by rfl)
    (q2 : (assignEach [.Starred (.Name y py) ps] X.env).map (·.2) = assign (.Name y py) X.env :: (assignEach [] X.env).map (·.2) := by rfl) :
    PS X (.Assign [.Tuple [.Name x px, .Starred (.Name y py) ps] k pt] e pos) (rdS T I0 B0 H0 W (sStar i j ce)) := by
  refine ps_imp (ps_asg he (pg_starL (j := 1) hc (pgs_cons (pg_name hN hi hx fx) (pgs_star (pg_name hN hj hy fy) pgs_nil q2) q1) hn hst) hs hw h1) ?_
  rintro D s H ⟨I, B, z, S, g', a, f⟩
  refine sdo (rep := Rp) g' a f fun J B' H' S' v d g0 g1 a1 r1 f1 => ?_
  cases d with
  | lst xs =>
    cases xs with
    | nil => exact f1.elim
    | cons d ds =>
      obtain ⟨b, vs, rfl, hb, _, rv⟩ := Rp.lst a1.st r1
      cases vs with
      | nil => exact rv.elim
      | cons v vs =>
        refine ⟨b, v :: vs, rfl, SqL.of hb, by simp, fun p hp => ?_⟩
        have g2 : Gr J B' H' J (upd B' p (.lst vs)) (upd H' p (.lst vs)) := gr_new hp a1.st.sub
        have a2 := a1.gr g2 (a1.st.new hp fun _ z => by cases z)
        refine ⟨v, [.ref p], rfl, .ref p, [], rfl, rfl, ?_⟩
        refine f1 J _ _ _ (g0.trans g2) g2.gb ((a2.setD i (rv.1.gr g2)).setD j ?_)
        exact ⟨p, vs, rfl, upd_same, rv.2.new a1.st hp⟩
  | _ => exact f1.elim
end
end CL
set_option Elab.async false
set_option linter.all false
set_option maxRecDepth 100000
set_option maxHeartbeats 2000000
/-! CL23: pieces at a state, for simp. -/
namespace CL
open PySem
section
variable {a b c : CE} {t u : CT} {ca : CA} {z : Sl} {S : Store} {i j n : Nat} {x y d : D} {xs ds : List D} {sa sb : CS} {g : Tg} {gs : Tgs}
@[simp] theorem ev_var : cVar i z S = slotD z[i]? S := rfl
@[simp] theorem ev_slot : slotD (some (.d x)) S = .ok x S := rfl
@[simp] theorem ev_k : cK x z S = .ok x S := rfl
@[simp] theorem ev_c1 {f : D → Store → R D} : c1 f a z S = (a z S).bind f := rfl
@[simp] theorem ev_c2 {f : D → D → Store → R D} : c2 f a b z S = (a z S).bind fun x S1 => (b z S1).bind fun y S2 => f x y S2 := rfl
@[simp] theorem ev_nil : aNil z S = .ok [] S := rfl
@[simp] theorem ev_cons : aCons a ca z S = (a z S).bind fun x S1 => (ca z S1).bind fun xs S2 => .ok (x :: xs) S2 := rfl
@[simp] theorem ev_app {f : List D → Store → R D} : cApp f ca z S = (ca z S).bind f := rfl
@[simp] theorem ev_call {g : G} : cCall g ca z S = (ca z S).bind g := rfl
@[simp] theorem ev_tup : cTup ca z S = (ca z S).bind fun xs S1 => if xs.length ≤ 16777216 then .ok (.tup xs) S1 else .bad := rfl
@[simp] theorem ev_lst : cLst ca z S = (ca z S).bind fun xs S1 => if xs.length ≤ 16777216 then .ok (.lst xs) S1 else .bad := rfl
@[simp] theorem ev_tB : tB a z S = (a z S).bind fun x S1 => match x with | .bl b => .ok b S1 | _ => .bad := rfl
@[simp] theorem ev_tNot : tNot t z S = (t z S).bind fun b S1 => .ok (!b) S1 := rfl
@[simp] theorem ev_tAnd : tAnd t u z S = (t z S).bind fun x S1 => if x then u z S1 else .ok false S1 := rfl
@[simp] theorem ev_tOr : tOr t u z S = (t z S).bind fun x S1 => if x then .ok true S1 else u z S1 := rfl
@[simp] theorem ev_if : cIf t a b z S = (t z S).bind fun x S1 => if x then a z S1 else b z S1 := rfl
@[simp] theorem ev_and : cAnd a b z S = (a z S).bind fun x S1 => match x with | .bl c => if c then b z S1 else .ok (.bl false) S1 | _ => .bad := rfl
@[simp] theorem ev_or : cOr a b z S = (a z S).bind fun x S1 => match x with | .bl c => if c then .ok (.bl true) S1 else b z S1 | _ => .bad := rfl
@[simp] theorem ev_not : cNot a z S = (a z S).bind fun x S1 => match x with | .bl c => .ok (.bl (!c)) S1 | _ => .bad := rfl
@[simp] theorem ev_chain {f h : D → D → Store → R D} : cChain f h a b c z S = (a z S).bind fun x S1 => (b z S1).bind fun y S2 => (f x y S2).bind fun w S3 => match w with | .bl k => if k then (c z S3).bind fun w S4 => h y w S4 else .ok (.bl false) S3 | _ => .bad := rfl
@[simp] theorem ev_cut {lo hi : CO} : cCut a lo hi z S = (a z S).bind fun x S1 => (lo z S1).bind fun l S2 => (hi z S2).bind fun h S3 => oCut x l h S3 := rfl
@[simp] theorem ev_none : oNone z S = .ok none S := rfl
@[simp] theorem ev_some : oSome a z S = (a z S).bind fun x S1 => match x with | .int i => .ok (some i) S1 | _ => .bad := rfl
@[simp] theorem ev_sm {f : Str → D → Store → R D} : cSm f a b z S = (a z S).bind fun x S1 => match x with | .str w => (b z S1).bind fun y S2 => f w y S2 | _ => .bad := rfl
@[simp] theorem ev_toP : cToP a z S = (a z S).bind fun d S' => match d with | .lst xs => .ok (.ptr S'.length) (S' ++ [.lst xs]) | _ => .bad := rfl
@[simp] theorem ev_appendP : cAppendP a b z S = (a z S).bind fun p S1 => match p with
  | .ptr j => match S1[j]? with
    | some (.lst _) => (b z S1).bind fun d S2 => match S2[j]? with
      | some (.lst xs) => if xs.length < 16777216 then .ok .non (S2.set j (.lst (xs ++ [d]))) else .bad
      | _ => .bad
    | _ => .bad
  | _ => .bad := rfl
@[simp] theorem ev_make {C : Addr} {g : G} : cMake C g ca z S = (ca z S).bind fun xs S1 => (g (.ptr S1.length :: xs) (S1 ++ [.ins C [] []])).bind fun r S2 => match r with
  | .non => .ok (.ptr S1.length) S2
  | _ => .bad := rfl
@[simp] theorem ev_val {C : Addr} {v : D} : cVal C v a z S = (a z S).bind fun d S1 => match d with | .ref b => if b = C then .ok v S1 else .bad | _ => .bad := rfl
@[simp] theorem ev_stat {C : Addr} {g : G} : cStat C g a ca z S = (a z S).bind fun d S1 => match d with | .ref b => if b = C then (ca z S1).bind g else .bad | _ => .bad := rfl
@[simp] theorem ev_cmeth {C : Addr} {g : G} : cCmeth C g a ca z S = (a z S).bind fun d S1 => match d with | .ref c => if c = C then (ca z S1).bind fun xs S2 => g (.ref C :: xs) S2 else .bad | _ => .bad := rfl
@[simp] theorem ev_prop {C : Addr} {g : G} : cProp C g a z S = (a z S).bind fun x S1 => match classOf S1 x with | some (C', _) => if C' = C then g [x] S1 else .bad | none => .bad := rfl
@[simp] theorem ev_nox {g : G} : gNox g ds S = match g ds S with | .ok d S' => .ok d S' | _ => .bad := rfl
@[simp] theorem ev_fld {C : Addr} {f : Str} : cFld C f a z S = (a z S).bind fun x S1 => match classOf S1 x, fieldOf S1 x f with
  | some (C', _), some v => if C' = C then .ok v S1 else .bad
  | _, _ => .bad := rfl
@[simp] theorem ev_meth {C : Addr} {m : Str} {g : G} : cMeth C m g a ca z S = (a z S).bind fun x S1 => match classOf S1 x with
  | some (C', ns) => if C' = C ∧ m ∉ ns then (ca z S1).bind fun xs S2 => g (x :: xs) S2 else .bad
  | none => .bad := rfl
/-! ### statements -/
@[simp] theorem ev_do {α : Type} {x : α} {f : α → Store → O} : oDo (.ok x S) z f = f x S := rfl
@[simp] theorem ev_doX {α : Type} {e : Exn} {f : α → Store → O} : oDo (.exc e S) z f = .exc e z S := rfl
@[simp] theorem ev_doB {α : Type} {f : α → Store → O} : oDo (.bad) z f = .bad := rfl
@[simp] theorem ev_sNil : sNil z S = .nx z S := rfl
@[simp] theorem ev_seq : sSeq sa sb z S = match sa z S with | .nx z' S' => sb z' S' | o => o := rfl
@[simp] theorem ev_set : sSet i a z S = oDo (a z S) z fun d S' => .nx (z.set i (.d d)) S' := rfl
@[simp] theorem ev_expr : sExpr a z S = oDo (a z S) z fun _ S' => .nx z S' := rfl
@[simp] theorem ev_ret : sRet a z S = oDo (a z S) z fun d S' => .rt d S' := rfl
@[simp] theorem ev_retN : sRetN z S = .rt .non S := rfl
@[simp] theorem ev_sif : sIf t sa sb z S = oDo (t z S) z fun c S' => if c then sa z S' else sb z S' := rfl
@[simp] theorem ev_asg : sAsg a g z S = oDo (a z S) z fun d S' => match g d z with | some z' => .nx z' S' | none => .bad := rfl
@[simp] theorem ev_par : sPar i j ca z S = oDo (ca z S) z fun ds S' => match ds with | [x, y] => .nx ((z.set i (.d x)).set j (.d y)) S' | _ => .bad := rfl
@[simp] theorem ev_setL : sSetL i a z S = oDo (a z S) z fun d S' => match d with | .lst xs => .nx (z.set i (.l xs)) S' | _ => .bad := rfl
@[simp] theorem ev_frz : sFrz i sa z S = match z[i]? with | some (.l xs) => sa (z.set i (.d (.lst xs))) S | _ => .bad := rfl
@[simp] theorem ev_append : sAppend i a z S = match z[i]? with
  | some (.l xs) => oDo (a z S) z fun d S' => if xs.length < 16777216 then .nx (z.set i (.l (xs ++ [d]))) S' else .bad
  | _ => .bad := rfl
@[simp] theorem ev_star : sStar i j a z S = oDo (a z S) z fun d S' => match d with | .lst (x :: xs) => .nx ((z.set i (.d x)).set j (.d (.lst xs))) S' | _ => .bad := rfl
@[simp] theorem ev_raiseK {C : Addr} {fs : List Str} : sRaiseK C fs ca z S = oDo (ca z S) z fun xs S' => if xs.length = fs.length then .exc ⟨C, fs.reverse, xs.reverse⟩ z S' else .bad := rfl
@[simp] theorem ev_raiseM {C : Addr} : sRaiseM C z S = .exc ⟨C, [], []⟩ z S := rfl
@[simp] theorem ev_for {it : CA} : sFor it g sa z S = oDo (it z S) z fun ds S' => loop g sa ds z S' := rfl
@[simp] theorem ev_field {C : Addr} {f : Str} : sField C f a b z S = oDo (b z S) z fun d S1 => oDo (a z S1) z fun p S2 => match p with
  | .ptr j => match S2[j]? with
    | some (.ins C' ns xs) => if C' = C ∧ ns.length < 1000 then .nx z (S2.set j (.ins C (putN f d ns xs).1 (putN f d ns xs).2)) else .bad
    | _ => .bad
  | _ => .bad := rfl
@[simp] theorem ev_item : sItem a b c z S = oDo (c z S) z fun d S1 => oDo (a z S1) z fun p S2 => oDo (b z S2) z fun i S3 => match p, i with
  | .ptr j, .int i => match S3[j]? with
    | some (.lst xs) => match L2.ixN xs.length i with
      | some n => .nx z (S3.set j (.lst (xs.set n d)))
      | none => .bad
    | _ => .bad
  | _, _ => .bad := rfl
@[simp] theorem ev_loop0 : loop g sa [] z S = .nx z S := rfl
@[simp] theorem ev_gN : gN i d z = some (z.set i (.d d)) := rfl
@[simp] theorem ev_gNil : gNil [] z = some z := rfl
@[simp] theorem ev_gCons : gCons g gs (d :: ds) z = (g d z).bind (gs ds) := rfl
@[simp] theorem ev_gTup : gTup n gs (.tup xs) z = if xs.length = n then gs xs z else none := rfl
@[simp] theorem ev_iSeq : iSeq a z S = (a z S).bind fun d S' => match d with | .tup xs => .ok xs S' | .lst xs => .ok xs S' | .scr ns => .ok (ns.map D.int) S' | _ => .bad := rfl
@[simp] theorem ev_iStr : iStrC a z S = (a z S).bind fun d S' => match d with | .str t => .ok (t.cps.toList.map fun c => D.str ⟨#[c]⟩) S' | _ => .bad := rfl
@[simp] theorem ev_iEnum : iEnum a z S = (a z S).bind fun d S' => match d with | .tup xs => .ok (enumD xs) S' | .lst xs => .ok (enumD xs) S' | _ => .bad := rfl
/-- a def's call, its body's way told -/
theorem run_rt {n : Nat} {b : CS} {ds : List D} {S S' : Store} {d : D} (h : b (ds.map SV.d ++ List.replicate (n - ds.length) SV.u) S = .rt d S') : run n b ds S = .ok d S' := by unfold run; rw [h]
theorem run_nx {n : Nat} {b : CS} {ds : List D} {S S' : Store} {z' : Sl} (h : b (ds.map SV.d ++ List.replicate (n - ds.length) SV.u) S = .nx z' S') : run n b ds S = .ok .non S' := by unfold run; rw [h]
theorem run_exc {n : Nat} {b : CS} {ds : List D} {S S' : Store} {z' : Sl} {e : Exn} (h : b (ds.map SV.d ++ List.replicate (n - ds.length) SV.u) S = .exc e z' S') : run n b ds S = .exc e S' := by unfold run; rw [h]
theorem seq_nx {z' : Sl} {S' : Store} (h : sa z S = .nx z' S') : sSeq sa sb z S = sb z' S' := by simp [h]
theorem seq_rt {S' : Store} (h : sa z S = .rt d S') : sSeq sa sb z S = .rt d S' := by simp [h]
theorem seq_exc {z' : Sl} {S' : Store} {e : Exn} (h : sa z S = .exc e z' S') : sSeq sa sb z S = .exc e z' S' := by simp [h]
theorem loop_cons {z1 z2 : Sl} {S2 : Store} (h1 : g d z = some z1) (h2 : sa z1 S = .nx z2 S2) : loop g sa (d :: ds) z S = loop g sa ds z2 S2 := by simp [loop, h1, h2]
theorem loop_rt {z1 : Sl} {S2 : Store} (h1 : g d z = some z1) (h2 : sa z1 S = .rt x S2) : loop g sa (d :: ds) z S = .rt x S2 := by simp [loop, h1, h2]
theorem loop_exc {z1 z2 : Sl} {S2 : Store} {e : Exn} (h1 : g d z = some z1) (h2 : sa z1 S = .exc e z2 S2) : loop g sa (d :: ds) z S = .exc e z2 S2 := by simp [loop, h1, h2]
end
/-! ### comprehensions as maps and filters -/
/-- every turn gives its value, the store stays -/
theorem lc_map (g : Tg) (t : CT) (e : CE) (z : Sl) (S : Store) (f : D → D) : ∀ (ds acc : List D), acc.length + ds.length ≤ 16777215 → (∀ d ∈ ds, ∃ z1, g d z = some z1 ∧ t z1 S = .ok true S ∧ e z1 S = .ok (f d) S) → lcGo g t e z ds S acc = .ok (acc ++ ds.map f) S
  | [], acc, _, _ => by simp [lcGo]
  | d :: ds, acc, hl, h => by
    obtain ⟨z1, h1, h2, h3⟩ := h d (by simp)
    have hl' : acc.length + (ds.length + 1) ≤ 16777215 := by simpa using hl
    unfold lcGo
    simp only [h1, h2, h3, if_pos (show acc.length < 16777216 by omega)]
    rw [lc_map g t e z S f ds (acc ++ [f d]) (by simp; omega) fun d hd => h d (by simp [hd])]
    simp
/-- the turns that pass the test give their items -/
theorem lc_filter (g : Tg) (t : CT) (e : CE) (z : Sl) (S : Store) (p : D → Bool) (f : D → D) : ∀ (ds acc : List D), acc.length + ds.length ≤ 16777215 → (∀ d ∈ ds, ∃ z1, g d z = some z1 ∧ t z1 S = .ok (p d) S ∧ e z1 S = .ok (f d) S) → lcGo g t e z ds S acc = .ok (acc ++ (ds.filter p).map f) S
  | [], acc, _, _ => by simp [lcGo]
  | d :: ds, acc, hl, h => by
    obtain ⟨z1, h1, h2, h3⟩ := h d (by simp)
    have hl' : acc.length + (ds.length + 1) ≤ 16777215 := by simpa using hl
    unfold lcGo
    cases hp : p d with
    | true =>
      rw [hp] at h2
      simp only [h1, h2, h3, if_pos (show acc.length < 16777216 by omega)]
      rw [lc_filter g t e z S p f ds (acc ++ [f d]) (by simp; omega) fun d hd => h d (by simp [hd])]
      simp [hp]
    | false =>
      rw [hp] at h2
      simp only [h1, h2]
      rw [lc_filter g t e z S p f ds acc (by omega) fun d hd => h d (by simp [hd])]
      simp [hp]
/-- as lc_map, items told by their place -/
theorem lc_eq {it : CA} {g : Tg} {t : CT} {e : CE} {vs : List Nat} {z : Sl} {S S1 S2 : Store} {ds xs : List D} (h1 : it z S = .ok ds S1) (h2 : lcGo g t e (wipeD z vs) ds S1 [] = .ok xs S2) : cLc it g t e vs z S = .ok (.lst xs) S2 := by
  unfold cLc; rw [h1]; simp [h2]
end CL
set_option Elab.async false
set_option linter.all false
set_option maxRecDepth 100000
set_option maxHeartbeats 4000000
namespace Law
open PySem PySem.Spec PyProof.Rows L2 CL
variable [TheK]
def top (i : Nat) : Stmt := PySem.Challenge.pw_wornbridges_k02_whole_texts_of_towns.main.body.getD i (.Pass ⟨0, 0, 0, 0⟩)
abbrev lamQ : Str := (envOfC "law" (defScope (top 34)) 0 0 .none).qual ++ "<lambda>"
/-- where things stand -/
structure Ad where
  f_law_mix : Addr
  d_law_mix : FuncData
  f_law_next : Addr
  d_law_next : FuncData
  f_law_life : Addr
  d_law_life : FuncData
  f_law_links : Addr
  d_law_links : FuncData
  f_law_text : Addr
  d_law_text : FuncData
  f_Town_is_bridge : Addr
  d_Town_is_bridge : FuncData
  f_Town__init : Addr
  d_Town__init : FuncData
  f_parse_numbers : Addr
  d_parse_numbers : FuncData
  f_Town_parse : Addr
  d_Town_parse : FuncData
  f_Town_bridges : Addr
  d_Town_bridges : FuncData
  f_law_alike : Addr
  d_law_alike : FuncData
  f_Town_text : Addr
  d_Town_text : FuncData
  f_law_bent : Addr
  d_law_bent : FuncData
  f_law_numbers : Addr
  d_law_numbers : FuncData
  f_law_read : Addr
  d_law_read : FuncData
  f_law_error : Addr
  d_law_error : FuncData
  f_Town_place_count : Addr
  d_Town_place_count : FuncData
  f_law : Addr
  d_law : FuncData
  C_Town : Addr
  C_InvalidTown : Addr
  C_InvalidText : Addr
  C_InvalidTrips : Addr
  C_InvalidLoad : Addr
  C_InvalidLife : Addr
  C_InvalidCount : Addr
  C_UnknownKind : Addr
  C_UnknownBridge : Addr
  C_UnknownPlace : Addr
  C_Contradiction : Addr
  C_DifferentTowns : Addr
  C_TooManyBridges : Addr
  C_BridgeError : Addr
  i_InvalidTown : Addr
  j_InvalidTown : FuncData
  i_InvalidText : Addr
  j_InvalidText : FuncData
  mc : Value
  lc : Addr
  lP : Addr
  t_Town_MAX_PLACES : Value
  t_Town_MAX_LIFE : Value
  t_Town_MAX_BRIDGES : Value
  p_Town_is_bridge : Addr
  p_Town_parse : Addr
  a_Town_bridges : Addr
  a_Town_text : Addr
  a_Town_place_count : Addr
  t_MAX_LENGTH : Tok
  t_DIGITS : Tok
  t_PLACES : Tok
  t_BRIDGE : Tok
/-- what the top has made -/
structure Fx (mg : Str → Option Value) (a : Ad) : Prop where
  F_law_mix : Fun TheK.K ("_law_mix" : Str) ("_law_mix" : Str) (top 23) a.f_law_mix a.d_law_mix
  b_law_mix : L2.Binds TheK.K a.d_law_mix [("_law_script" : Str), ("_law_seed" : Str)] []
  m_law_mix : mg ("_law_mix" : Str) = some (.ref a.f_law_mix)
  F_law_next : Fun TheK.K ("_law_next" : Str) ("_law_next" : Str) (top 24) a.f_law_next a.d_law_next
  b_law_next : L2.Binds TheK.K a.d_law_next [("_law_h" : Str), ("_law_limit" : Str)] []
  m_law_next : mg ("_law_next" : Str) = some (.ref a.f_law_next)
  F_law_life : Fun TheK.K ("_law_life" : Str) ("_law_life" : Str) (top 27) a.f_law_life a.d_law_life
  b_law_life : L2.Binds TheK.K a.d_law_life [("_law_h" : Str), ("_law_wide" : Str)] []
  m_law_life : mg ("_law_life" : Str) = some (.ref a.f_law_life)
  F_law_links : Fun TheK.K ("_law_links" : Str) ("_law_links" : Str) (top 28) a.f_law_links a.d_law_links
  b_law_links : L2.Binds TheK.K a.d_law_links [("_law_h" : Str), ("_law_count" : Str), ("_law_most" : Str), ("_law_wide" : Str)] []
  m_law_links : mg ("_law_links" : Str) = some (.ref a.f_law_links)
  F_law_text : Fun TheK.K ("_law_text" : Str) ("_law_text" : Str) (top 30) a.f_law_text a.d_law_text
  b_law_text : L2.Binds TheK.K a.d_law_text [("_law_count" : Str), ("_law_links_here" : Str)] []
  m_law_text : mg ("_law_text" : Str) = some (.ref a.f_law_text)
  F_Town_is_bridge : Fun TheK.K ("is_bridge" : Str) ("Town.is_bridge" : Str) (inClass (top 21) 4) a.f_Town_is_bridge a.d_Town_is_bridge
  b_Town_is_bridge : L2.Binds TheK.K a.d_Town_is_bridge [("count" : Str), ("bridge" : Str)] []
  F_Town__init : Fun TheK.K ("__init__" : Str) ("Town.__init__" : Str) (inClass (top 21) 3) a.f_Town__init a.d_Town__init
  b_Town__init : L2.Binds TheK.K a.d_Town__init [("self" : Str), ("count" : Str), ("bridges" : Str)] []
  F_parse_numbers : Fun TheK.K ("parse_numbers" : Str) ("parse_numbers" : Str) (top 20) a.f_parse_numbers a.d_parse_numbers
  b_parse_numbers : L2.Binds TheK.K a.d_parse_numbers [("words" : Str)] []
  m_parse_numbers : mg ("parse_numbers" : Str) = some (.ref a.f_parse_numbers)
  F_Town_parse : Fun TheK.K ("parse" : Str) ("Town.parse" : Str) (inClass (top 21) 5) a.f_Town_parse a.d_Town_parse
  b_Town_parse : L2.Binds TheK.K a.d_Town_parse [("cls" : Str), ("text" : Str)] []
  F_Town_bridges : Fun TheK.K ("bridges" : Str) ("Town.bridges" : Str) (inClass (top 21) 7) a.f_Town_bridges a.d_Town_bridges
  b_Town_bridges : L2.Binds TheK.K a.d_Town_bridges [("self" : Str)] []
  F_law_alike : Fun TheK.K ("_law_alike" : Str) ("_law_alike" : Str) (top 25) a.f_law_alike a.d_law_alike
  b_law_alike : L2.Binds TheK.K a.d_law_alike [("_law_found" : Str), ("_law_due" : Str)] []
  m_law_alike : mg ("_law_alike" : Str) = some (.ref a.f_law_alike)
  F_Town_text : Fun TheK.K ("text" : Str) ("Town.text" : Str) (inClass (top 21) 9) a.f_Town_text a.d_Town_text
  b_Town_text : L2.Binds TheK.K a.d_Town_text [("self" : Str)] []
  F_law_bent : Fun TheK.K ("_law_bent" : Str) ("_law_bent" : Str) (top 33) a.f_law_bent a.d_law_bent
  b_law_bent : L2.Binds TheK.K a.d_law_bent [("_law_h" : Str), ("_law_text_here" : Str)] []
  m_law_bent : mg ("_law_bent" : Str) = some (.ref a.f_law_bent)
  F_law_numbers : Fun TheK.K ("_law_numbers" : Str) ("_law_numbers" : Str) (top 31) a.f_law_numbers a.d_law_numbers
  b_law_numbers : L2.Binds TheK.K a.d_law_numbers [("_law_words" : Str)] []
  m_law_numbers : mg ("_law_numbers" : Str) = some (.ref a.f_law_numbers)
  F_law_read : Fun TheK.K ("_law_read" : Str) ("_law_read" : Str) (top 32) a.f_law_read a.d_law_read
  b_law_read : L2.Binds TheK.K a.d_law_read [("_law_text_here" : Str)] []
  m_law_read : mg ("_law_read" : Str) = some (.ref a.f_law_read)
  F_law_error : Fun TheK.K ("_law_error" : Str) ("_law_error" : Str) (top 26) a.f_law_error a.d_law_error
  b_law_error : L2.Binds TheK.K a.d_law_error [("_law_call" : Str)] []
  m_law_error : mg ("_law_error" : Str) = some (.ref a.f_law_error)
  F_Town_place_count : Fun TheK.K ("place_count" : Str) ("Town.place_count" : Str) (inClass (top 21) 6) a.f_Town_place_count a.d_Town_place_count
  b_Town_place_count : L2.Binds TheK.K a.d_Town_place_count [("self" : Str)] []
  F_law : Fun TheK.K ("law" : Str) ("law" : Str) (top 34) a.f_law a.d_law
  b_law : L2.Binds TheK.K a.d_law [("_law_script" : Str)] []
  m_law : mg ("law" : Str) = some (.ref a.f_law)
  m_Town : mg ("Town" : Str) = some (.ref a.C_Town)
  m_InvalidTown : mg ("InvalidTown" : Str) = some (.ref a.C_InvalidTown)
  m_InvalidText : mg ("InvalidText" : Str) = some (.ref a.C_InvalidText)
  m_InvalidTrips : mg ("InvalidTrips" : Str) = some (.ref a.C_InvalidTrips)
  m_InvalidLoad : mg ("InvalidLoad" : Str) = some (.ref a.C_InvalidLoad)
  m_InvalidLife : mg ("InvalidLife" : Str) = some (.ref a.C_InvalidLife)
  m_InvalidCount : mg ("InvalidCount" : Str) = some (.ref a.C_InvalidCount)
  m_UnknownKind : mg ("UnknownKind" : Str) = some (.ref a.C_UnknownKind)
  m_UnknownBridge : mg ("UnknownBridge" : Str) = some (.ref a.C_UnknownBridge)
  m_UnknownPlace : mg ("UnknownPlace" : Str) = some (.ref a.C_UnknownPlace)
  m_Contradiction : mg ("Contradiction" : Str) = some (.ref a.C_Contradiction)
  m_DifferentTowns : mg ("DifferentTowns" : Str) = some (.ref a.C_DifferentTowns)
  m_TooManyBridges : mg ("TooManyBridges" : Str) = some (.ref a.C_TooManyBridges)
  m_BridgeError : mg ("BridgeError" : Str) = some (.ref a.C_BridgeError)
  r_Town : ClX.CRead TheK.K a.C_Town a.mc
  v_Town_MAX_PLACES : ClX.CVal TheK.K a.C_Town a.mc ("MAX_PLACES" : Str) (.int 12) a.t_Town_MAX_PLACES
  v_Town_MAX_LIFE : ClX.CVal TheK.K a.C_Town a.mc ("MAX_LIFE" : Str) (.int 1000000000000000000) a.t_Town_MAX_LIFE
  v_Town_MAX_BRIDGES : ClX.CVal TheK.K a.C_Town a.mc ("MAX_BRIDGES" : Str) (.int 24) a.t_Town_MAX_BRIDGES
  s_Town_is_bridge : SMet TheK.K a.C_Town a.mc ("is_bridge" : Str) a.p_Town_is_bridge a.f_Town_is_bridge
  y_Town_parse : ClX.CMet TheK.K a.C_Town a.mc ("parse" : Str) a.p_Town_parse a.f_Town_parse
  c_Town : Cls TheK.K a.C_Town
  k_Town : Mk TheK.K a.C_Town a.f_Town__init
  n_Town_size : NoAttr TheK.K a.C_Town ("size" : Str)
  n_Town_links : NoAttr TheK.K a.C_Town ("links" : Str)
  n_InvalidTown_index : PySem.W.findIn TheK.K (.ref a.C_InvalidTown) ("index" : Str) = some none
  n_InvalidTown_part : PySem.W.findIn TheK.K (.ref a.C_InvalidTown) ("part" : Str) = some none
  n_InvalidText_row : PySem.W.findIn TheK.K (.ref a.C_InvalidText) ("row" : Str) = some none
  n_InvalidTrips_index : PySem.W.findIn TheK.K (.ref a.C_InvalidTrips) ("index" : Str) = some none
  xf_InvalidTown : XfC TheK.K a.C_InvalidTown
  xf_InvalidText : XfC TheK.K a.C_InvalidText
  xf_InvalidTrips : XfC TheK.K a.C_InvalidTrips
  p_Town_bridges : PropOf TheK.K a.C_Town ("bridges" : Str) a.a_Town_bridges a.f_Town_bridges
  p_Town_text : PropOf TheK.K a.C_Town ("text" : Str) a.a_Town_text a.f_Town_text
  p_Town_place_count : PropOf TheK.K a.C_Town ("place_count" : Str) a.a_Town_place_count a.f_Town_place_count
  m_MAX_LENGTH : mg ("MAX_LENGTH" : Str) = some (.int 99 a.t_MAX_LENGTH)
  m_DIGITS : mg ("DIGITS" : Str) = some (.str ("0123456789" : Str) a.t_DIGITS)
  m_PLACES : mg ("PLACES" : Str) = some (.str ("places" : Str) a.t_PLACES)
  m_BRIDGE : mg ("BRIDGE" : Str) = some (.str ("bridge" : Str) a.t_BRIDGE)
  z_list : mg ("list" : Str) = none
  z_range : mg ("range" : Str) = none
  z_int : mg ("int" : Str) = none
  z_max : mg ("max" : Str) = none
  z_len : mg ("len" : Str) = none
  z_tuple : mg ("tuple" : Str) = none
  z_str : mg ("str" : Str) = none
  z_enumerate : mg ("enumerate" : Str) = none
  z_isinstance : mg ("isinstance" : Str) = none
  z_dict : mg ("dict" : Str) = none
  z_bool : mg ("bool" : Str) = none
  z_ValueError : mg ("ValueError" : Str) = none
  x_InvalidTown : ∀ {P : Program} (w : World) (base : Heap), XInit P w TheK.K mg base 1 a.C_InvalidTown [("part" : Str), ("index" : Str)]
  x_InvalidText : ∀ {P : Program} (w : World) (base : Heap), XInit P w TheK.K mg base 1 a.C_InvalidText [("row" : Str)]
  ec_InvalidTown : ExcC TheK.K a.C_InvalidTown
  kt_InvalidTown_InvalidTown : PySem.W.kitOne TheK.K (.ref a.C_InvalidTown) (.ref a.C_InvalidTown) = some true
  kt_InvalidTown_InvalidText : PySem.W.kitOne TheK.K (.ref a.C_InvalidTown) (.ref a.C_InvalidText) = some false
  kt_InvalidTown_InvalidTrips : PySem.W.kitOne TheK.K (.ref a.C_InvalidTown) (.ref a.C_InvalidTrips) = some false
  kt_InvalidTown_InvalidCount : PySem.W.kitOne TheK.K (.ref a.C_InvalidTown) (.ref a.C_InvalidCount) = some false
  kt_InvalidTown_InvalidLife : PySem.W.kitOne TheK.K (.ref a.C_InvalidTown) (.ref a.C_InvalidLife) = some false
  kt_InvalidTown_InvalidLoad : PySem.W.kitOne TheK.K (.ref a.C_InvalidTown) (.ref a.C_InvalidLoad) = some false
  kt_InvalidTown_UnknownPlace : PySem.W.kitOne TheK.K (.ref a.C_InvalidTown) (.ref a.C_UnknownPlace) = some false
  kt_InvalidTown_UnknownBridge : PySem.W.kitOne TheK.K (.ref a.C_InvalidTown) (.ref a.C_UnknownBridge) = some false
  kt_InvalidTown_UnknownKind : PySem.W.kitOne TheK.K (.ref a.C_InvalidTown) (.ref a.C_UnknownKind) = some false
  kt_InvalidTown_TooManyBridges : PySem.W.kitOne TheK.K (.ref a.C_InvalidTown) (.ref a.C_TooManyBridges) = some false
  kt_InvalidTown_DifferentTowns : PySem.W.kitOne TheK.K (.ref a.C_InvalidTown) (.ref a.C_DifferentTowns) = some false
  kt_InvalidTown_Contradiction : PySem.W.kitOne TheK.K (.ref a.C_InvalidTown) (.ref a.C_Contradiction) = some false
  kt_InvalidTown_ValueError : PySem.W.kitOne TheK.K (.ref a.C_InvalidTown) (.type "ValueError") = some true
  xm_InvalidTown_BridgeError : PySem.W.exmOne TheK.K (.ref a.C_InvalidTown) (.ref a.C_BridgeError) = some true
  ec_InvalidText : ExcC TheK.K a.C_InvalidText
  kt_InvalidText_InvalidTown : PySem.W.kitOne TheK.K (.ref a.C_InvalidText) (.ref a.C_InvalidTown) = some false
  kt_InvalidText_InvalidText : PySem.W.kitOne TheK.K (.ref a.C_InvalidText) (.ref a.C_InvalidText) = some true
  kt_InvalidText_InvalidTrips : PySem.W.kitOne TheK.K (.ref a.C_InvalidText) (.ref a.C_InvalidTrips) = some false
  kt_InvalidText_InvalidCount : PySem.W.kitOne TheK.K (.ref a.C_InvalidText) (.ref a.C_InvalidCount) = some false
  kt_InvalidText_InvalidLife : PySem.W.kitOne TheK.K (.ref a.C_InvalidText) (.ref a.C_InvalidLife) = some false
  kt_InvalidText_InvalidLoad : PySem.W.kitOne TheK.K (.ref a.C_InvalidText) (.ref a.C_InvalidLoad) = some false
  kt_InvalidText_UnknownPlace : PySem.W.kitOne TheK.K (.ref a.C_InvalidText) (.ref a.C_UnknownPlace) = some false
  kt_InvalidText_UnknownBridge : PySem.W.kitOne TheK.K (.ref a.C_InvalidText) (.ref a.C_UnknownBridge) = some false
  kt_InvalidText_UnknownKind : PySem.W.kitOne TheK.K (.ref a.C_InvalidText) (.ref a.C_UnknownKind) = some false
  kt_InvalidText_TooManyBridges : PySem.W.kitOne TheK.K (.ref a.C_InvalidText) (.ref a.C_TooManyBridges) = some false
  kt_InvalidText_DifferentTowns : PySem.W.kitOne TheK.K (.ref a.C_InvalidText) (.ref a.C_DifferentTowns) = some false
  kt_InvalidText_Contradiction : PySem.W.kitOne TheK.K (.ref a.C_InvalidText) (.ref a.C_Contradiction) = some false
  kt_InvalidText_ValueError : PySem.W.kitOne TheK.K (.ref a.C_InvalidText) (.type "ValueError") = some true
  xm_InvalidText_BridgeError : PySem.W.exmOne TheK.K (.ref a.C_InvalidText) (.ref a.C_BridgeError) = some true
def kit_InvalidTown (a : Ad) (D : Addr) : Option Bool := if D = a.C_InvalidTown then some true else if D = a.C_InvalidText then some false else none
theorem kit_InvalidTown_ok {mg : Str → Option Value} {a : Ad} (X : Fx mg a) (D : Addr) (b : Bool) (h : kit_InvalidTown a D = some b) : ExcC TheK.K D ∧ PySem.W.kitOne TheK.K (.ref D) (.ref a.C_InvalidTown) = some b := by
  unfold kit_InvalidTown at h
  by_cases h0 : D = a.C_InvalidTown
  · rw [if_pos h0] at h; cases h; subst h0; exact ⟨X.ec_InvalidTown, X.kt_InvalidTown_InvalidTown⟩
  rw [if_neg h0] at h
  by_cases h1 : D = a.C_InvalidText
  · rw [if_pos h1] at h; cases h; subst h1; exact ⟨X.ec_InvalidText, X.kt_InvalidText_InvalidTown⟩
  rw [if_neg h1] at h
  cases h
def kit_InvalidText (a : Ad) (D : Addr) : Option Bool := if D = a.C_InvalidTown then some false else if D = a.C_InvalidText then some true else none
theorem kit_InvalidText_ok {mg : Str → Option Value} {a : Ad} (X : Fx mg a) (D : Addr) (b : Bool) (h : kit_InvalidText a D = some b) : ExcC TheK.K D ∧ PySem.W.kitOne TheK.K (.ref D) (.ref a.C_InvalidText) = some b := by
  unfold kit_InvalidText at h
  by_cases h0 : D = a.C_InvalidTown
  · rw [if_pos h0] at h; cases h; subst h0; exact ⟨X.ec_InvalidTown, X.kt_InvalidTown_InvalidText⟩
  rw [if_neg h0] at h
  by_cases h1 : D = a.C_InvalidText
  · rw [if_pos h1] at h; cases h; subst h1; exact ⟨X.ec_InvalidText, X.kt_InvalidText_InvalidText⟩
  rw [if_neg h1] at h
  cases h
def kit_InvalidTrips (a : Ad) (D : Addr) : Option Bool := if D = a.C_InvalidTown then some false else if D = a.C_InvalidText then some false else none
theorem kit_InvalidTrips_ok {mg : Str → Option Value} {a : Ad} (X : Fx mg a) (D : Addr) (b : Bool) (h : kit_InvalidTrips a D = some b) : ExcC TheK.K D ∧ PySem.W.kitOne TheK.K (.ref D) (.ref a.C_InvalidTrips) = some b := by
  unfold kit_InvalidTrips at h
  by_cases h0 : D = a.C_InvalidTown
  · rw [if_pos h0] at h; cases h; subst h0; exact ⟨X.ec_InvalidTown, X.kt_InvalidTown_InvalidTrips⟩
  rw [if_neg h0] at h
  by_cases h1 : D = a.C_InvalidText
  · rw [if_pos h1] at h; cases h; subst h1; exact ⟨X.ec_InvalidText, X.kt_InvalidText_InvalidTrips⟩
  rw [if_neg h1] at h
  cases h
def kit_InvalidCount (a : Ad) (D : Addr) : Option Bool := if D = a.C_InvalidTown then some false else if D = a.C_InvalidText then some false else none
theorem kit_InvalidCount_ok {mg : Str → Option Value} {a : Ad} (X : Fx mg a) (D : Addr) (b : Bool) (h : kit_InvalidCount a D = some b) : ExcC TheK.K D ∧ PySem.W.kitOne TheK.K (.ref D) (.ref a.C_InvalidCount) = some b := by
  unfold kit_InvalidCount at h
  by_cases h0 : D = a.C_InvalidTown
  · rw [if_pos h0] at h; cases h; subst h0; exact ⟨X.ec_InvalidTown, X.kt_InvalidTown_InvalidCount⟩
  rw [if_neg h0] at h
  by_cases h1 : D = a.C_InvalidText
  · rw [if_pos h1] at h; cases h; subst h1; exact ⟨X.ec_InvalidText, X.kt_InvalidText_InvalidCount⟩
  rw [if_neg h1] at h
  cases h
def kit_InvalidLife (a : Ad) (D : Addr) : Option Bool := if D = a.C_InvalidTown then some false else if D = a.C_InvalidText then some false else none
theorem kit_InvalidLife_ok {mg : Str → Option Value} {a : Ad} (X : Fx mg a) (D : Addr) (b : Bool) (h : kit_InvalidLife a D = some b) : ExcC TheK.K D ∧ PySem.W.kitOne TheK.K (.ref D) (.ref a.C_InvalidLife) = some b := by
  unfold kit_InvalidLife at h
  by_cases h0 : D = a.C_InvalidTown
  · rw [if_pos h0] at h; cases h; subst h0; exact ⟨X.ec_InvalidTown, X.kt_InvalidTown_InvalidLife⟩
  rw [if_neg h0] at h
  by_cases h1 : D = a.C_InvalidText
  · rw [if_pos h1] at h; cases h; subst h1; exact ⟨X.ec_InvalidText, X.kt_InvalidText_InvalidLife⟩
  rw [if_neg h1] at h
  cases h
def kit_InvalidLoad (a : Ad) (D : Addr) : Option Bool := if D = a.C_InvalidTown then some false else if D = a.C_InvalidText then some false else none
theorem kit_InvalidLoad_ok {mg : Str → Option Value} {a : Ad} (X : Fx mg a) (D : Addr) (b : Bool) (h : kit_InvalidLoad a D = some b) : ExcC TheK.K D ∧ PySem.W.kitOne TheK.K (.ref D) (.ref a.C_InvalidLoad) = some b := by
  unfold kit_InvalidLoad at h
  by_cases h0 : D = a.C_InvalidTown
  · rw [if_pos h0] at h; cases h; subst h0; exact ⟨X.ec_InvalidTown, X.kt_InvalidTown_InvalidLoad⟩
  rw [if_neg h0] at h
  by_cases h1 : D = a.C_InvalidText
  · rw [if_pos h1] at h; cases h; subst h1; exact ⟨X.ec_InvalidText, X.kt_InvalidText_InvalidLoad⟩
  rw [if_neg h1] at h
  cases h
def kit_UnknownPlace (a : Ad) (D : Addr) : Option Bool := if D = a.C_InvalidTown then some false else if D = a.C_InvalidText then some false else none
theorem kit_UnknownPlace_ok {mg : Str → Option Value} {a : Ad} (X : Fx mg a) (D : Addr) (b : Bool) (h : kit_UnknownPlace a D = some b) : ExcC TheK.K D ∧ PySem.W.kitOne TheK.K (.ref D) (.ref a.C_UnknownPlace) = some b := by
  unfold kit_UnknownPlace at h
  by_cases h0 : D = a.C_InvalidTown
  · rw [if_pos h0] at h; cases h; subst h0; exact ⟨X.ec_InvalidTown, X.kt_InvalidTown_UnknownPlace⟩
  rw [if_neg h0] at h
  by_cases h1 : D = a.C_InvalidText
  · rw [if_pos h1] at h; cases h; subst h1; exact ⟨X.ec_InvalidText, X.kt_InvalidText_UnknownPlace⟩
  rw [if_neg h1] at h
  cases h
def kit_UnknownBridge (a : Ad) (D : Addr) : Option Bool := if D = a.C_InvalidTown then some false else if D = a.C_InvalidText then some false else none
theorem kit_UnknownBridge_ok {mg : Str → Option Value} {a : Ad} (X : Fx mg a) (D : Addr) (b : Bool) (h : kit_UnknownBridge a D = some b) : ExcC TheK.K D ∧ PySem.W.kitOne TheK.K (.ref D) (.ref a.C_UnknownBridge) = some b := by
  unfold kit_UnknownBridge at h
  by_cases h0 : D = a.C_InvalidTown
  · rw [if_pos h0] at h; cases h; subst h0; exact ⟨X.ec_InvalidTown, X.kt_InvalidTown_UnknownBridge⟩
  rw [if_neg h0] at h
  by_cases h1 : D = a.C_InvalidText
  · rw [if_pos h1] at h; cases h; subst h1; exact ⟨X.ec_InvalidText, X.kt_InvalidText_UnknownBridge⟩
  rw [if_neg h1] at h
  cases h
def kit_UnknownKind (a : Ad) (D : Addr) : Option Bool := if D = a.C_InvalidTown then some false else if D = a.C_InvalidText then some false else none
theorem kit_UnknownKind_ok {mg : Str → Option Value} {a : Ad} (X : Fx mg a) (D : Addr) (b : Bool) (h : kit_UnknownKind a D = some b) : ExcC TheK.K D ∧ PySem.W.kitOne TheK.K (.ref D) (.ref a.C_UnknownKind) = some b := by
  unfold kit_UnknownKind at h
  by_cases h0 : D = a.C_InvalidTown
  · rw [if_pos h0] at h; cases h; subst h0; exact ⟨X.ec_InvalidTown, X.kt_InvalidTown_UnknownKind⟩
  rw [if_neg h0] at h
  by_cases h1 : D = a.C_InvalidText
  · rw [if_pos h1] at h; cases h; subst h1; exact ⟨X.ec_InvalidText, X.kt_InvalidText_UnknownKind⟩
  rw [if_neg h1] at h
  cases h
def kit_TooManyBridges (a : Ad) (D : Addr) : Option Bool := if D = a.C_InvalidTown then some false else if D = a.C_InvalidText then some false else none
theorem kit_TooManyBridges_ok {mg : Str → Option Value} {a : Ad} (X : Fx mg a) (D : Addr) (b : Bool) (h : kit_TooManyBridges a D = some b) : ExcC TheK.K D ∧ PySem.W.kitOne TheK.K (.ref D) (.ref a.C_TooManyBridges) = some b := by
  unfold kit_TooManyBridges at h
  by_cases h0 : D = a.C_InvalidTown
  · rw [if_pos h0] at h; cases h; subst h0; exact ⟨X.ec_InvalidTown, X.kt_InvalidTown_TooManyBridges⟩
  rw [if_neg h0] at h
  by_cases h1 : D = a.C_InvalidText
  · rw [if_pos h1] at h; cases h; subst h1; exact ⟨X.ec_InvalidText, X.kt_InvalidText_TooManyBridges⟩
  rw [if_neg h1] at h
  cases h
def kit_DifferentTowns (a : Ad) (D : Addr) : Option Bool := if D = a.C_InvalidTown then some false else if D = a.C_InvalidText then some false else none
theorem kit_DifferentTowns_ok {mg : Str → Option Value} {a : Ad} (X : Fx mg a) (D : Addr) (b : Bool) (h : kit_DifferentTowns a D = some b) : ExcC TheK.K D ∧ PySem.W.kitOne TheK.K (.ref D) (.ref a.C_DifferentTowns) = some b := by
  unfold kit_DifferentTowns at h
  by_cases h0 : D = a.C_InvalidTown
  · rw [if_pos h0] at h; cases h; subst h0; exact ⟨X.ec_InvalidTown, X.kt_InvalidTown_DifferentTowns⟩
  rw [if_neg h0] at h
  by_cases h1 : D = a.C_InvalidText
  · rw [if_pos h1] at h; cases h; subst h1; exact ⟨X.ec_InvalidText, X.kt_InvalidText_DifferentTowns⟩
  rw [if_neg h1] at h
  cases h
def kit_Contradiction (a : Ad) (D : Addr) : Option Bool := if D = a.C_InvalidTown then some false else if D = a.C_InvalidText then some false else none
theorem kit_Contradiction_ok {mg : Str → Option Value} {a : Ad} (X : Fx mg a) (D : Addr) (b : Bool) (h : kit_Contradiction a D = some b) : ExcC TheK.K D ∧ PySem.W.kitOne TheK.K (.ref D) (.ref a.C_Contradiction) = some b := by
  unfold kit_Contradiction at h
  by_cases h0 : D = a.C_InvalidTown
  · rw [if_pos h0] at h; cases h; subst h0; exact ⟨X.ec_InvalidTown, X.kt_InvalidTown_Contradiction⟩
  rw [if_neg h0] at h
  by_cases h1 : D = a.C_InvalidText
  · rw [if_pos h1] at h; cases h; subst h1; exact ⟨X.ec_InvalidText, X.kt_InvalidText_Contradiction⟩
  rw [if_neg h1] at h
  cases h
def kit_ValueError (a : Ad) (D : Addr) : Option Bool := if D = a.C_InvalidTown then some true else if D = a.C_InvalidText then some true else none
theorem kit_ValueError_ok {mg : Str → Option Value} {a : Ad} (X : Fx mg a) (D : Addr) (b : Bool) (h : kit_ValueError a D = some b) : ExcC TheK.K D ∧ PySem.W.kitOne TheK.K (.ref D) (.type "ValueError") = some b := by
  unfold kit_ValueError at h
  by_cases h0 : D = a.C_InvalidTown
  · rw [if_pos h0] at h; cases h; subst h0; exact ⟨X.ec_InvalidTown, X.kt_InvalidTown_ValueError⟩
  rw [if_neg h0] at h
  by_cases h1 : D = a.C_InvalidText
  · rw [if_pos h1] at h; cases h; subst h1; exact ⟨X.ec_InvalidText, X.kt_InvalidText_ValueError⟩
  rw [if_neg h1] at h
  cases h
def exm_BridgeError (a : Ad) (D : Addr) : Option Bool := if D = a.C_InvalidTown then some true else if D = a.C_InvalidText then some true else none
theorem exm_BridgeError_ok {mg : Str → Option Value} {a : Ad} (X : Fx mg a) (D : Addr) (b : Bool) (h : exm_BridgeError a D = some b) : PySem.W.exmOne TheK.K (.ref D) (.ref a.C_BridgeError) = some b := by
  unfold exm_BridgeError at h
  by_cases h0 : D = a.C_InvalidTown
  · rw [if_pos h0] at h; cases h; subst h0; exact X.xm_InvalidTown_BridgeError
  rw [if_neg h0] at h
  by_cases h1 : D = a.C_InvalidText
  · rw [if_pos h1] at h; cases h; subst h1; exact X.xm_InvalidText_BridgeError
  rw [if_neg h1] at h
  cases h
/-! ### _law_mix -/
def q_law_mix_3 (a : Ad) : CS := (sSet 2 (c2 oMod (c2 oAdd (c2 oAdd (c2 oMul (cVar 2) (cK (.int 48271))) (c2 oMod (cVar 3) (cK (.int 2147483629)))) (cK (.int 1))) (cK (.int 2147483647))))
def q_law_mix_2 (a : Ad) : CS := (sFor (CL.iSeq (cVar 0)) (gN 3) (q_law_mix_3 a))
def q_law_mix_4 (a : Ad) : CS := (sRet (cToP (cLst (aCons (cVar 2) (aCons (cToP (cApp bList (aCons (cVar 0) aNil))) (aCons (cK (.int 0)) aNil))))))
abbrev st_law_mix : Stmt := top 23
theorem nd_law_mix : ([("_law_script" : Str), ("_law_seed" : Str), ("_law_mixed" : Str), ("_law_cell" : Str)] : List Str).Nodup := by decide +kernel
def c_law_mix (a : Ad) : CS := (sSeq (sSet 2 (cVar 1)) (sSeq (q_law_mix_2 a) (q_law_mix_4 a)))
def g_law_mix (a : Ad) : G := run 4 (c_law_mix a)
theorem ok_law_mix {P : Program} {w : World} {mg : Str → Option Value} {base : Heap} {L : Tl} {a : Ad} (X : Fx mg a) : FnC P w TheK.K mg base L 1 a.f_law_mix a.d_law_mix [("_law_script" : Str), ("_law_seed" : Str)] (g_law_mix a) := by
  refine fn_d X.F_law_mix (N := [("_law_script" : Str), ("_law_seed" : Str), ("_law_mixed" : Str), ("_law_cell" : Str)]) (c := c_law_mix a) (k := 0) (by conv => lhs; whnf) (by conv => lhs; whnf) ⟨rfl, rfl, rfl, nd_law_mix, rfl, by decide +kernel, by decide +kernel⟩ ?_
  intro cdv A outer s H E I0 B0 hr
  exact (s_cons (s_set (i := 2) nd_law_mix rfl (by first | exact Or.inl rfl | exact Or.inr rfl) (e_var 1)) (s_cons (s_for (passes_of rfl) rfl (i_seq (e_var 0)) (g_name (i := 3) nd_law_mix rfl (by first | exact Or.inl rfl | exact Or.inr rfl)) (s_one (s_set (i := 2) nd_law_mix rfl (by first | exact Or.inl rfl | exact Or.inr rfl) (e_op op_mod k_mod (e_op op_addA k_add (e_op op_addA k_add (e_op op_mulA k_mul (e_var 2) e_int) (e_op op_mod k_mod (e_var 3) e_int)) e_int) e_int)))) (s_one (s_ret (e_toP (f_lst (a_cons (e_var 2) (a_cons (e_toP (f_list rfl X.z_list (a_cons (e_var 0) a_nil))) (a_cons e_int a_nil)))))))))
/-! ### _law_next -/
def q_law_1 (a : Ad) : CS := (sSet 1 (cCall (g_law_mix a) (aCons (cVar 0) (aCons (cK (.int 2)) aNil))))
def q_law_next_1 (a : Ad) : CS := (sSet 2 (c2 oIx (c2 oAdd (c2 oIx (cVar 0) (cK (.int 1))) (cLst (aCons (cK (.int 0)) aNil))) (c2 oMod (cApp bInt (aCons (c2 oIx (cVar 0) (cK (.int 2))) aNil)) (cApp bMax2 (aCons (cK (.int 1)) (aCons (cApp bLen (aCons (c2 oIx (cVar 0) (cK (.int 1))) aNil)) aNil))))))
def q_law_next_3 (a : Ad) : CS := (sItem (c2 oIx (cVar 0) (cK (.int 1))) (c2 oMod (cApp bInt (aCons (c2 oIx (cVar 0) (cK (.int 2))) aNil)) (cApp bLen (aCons (c2 oIx (cVar 0) (cK (.int 1))) aNil))) (c2 oDiv (cVar 2) (cVar 1)))
def q_law_next_4 (a : Ad) : CS := (sRet (c2 oMod (cApp bInt (aCons (cVar 2) aNil)) (cVar 1)))
def q_law_next_2 (a : Ad) : CS := (sIf (tB (c2 oGe (cVar 2) (c2 oPow (cK (.int 10)) (cK (.int 18))))) (sSeq (q_law_next_3 a) (q_law_next_4 a)) sNil)
def q_law_next_5 (a : Ad) : CS := (sItem (cVar 0) (cK (.int 0)) (c2 oMod (c2 oAdd (c2 oAdd (c2 oMul (c2 oIx (cVar 0) (cK (.int 0))) (cK (.int 48271))) (c2 oMul (cVar 2) (cK (.int 69621)))) (cK (.int 11))) (cK (.int 2147483647))))
def q_law_next_6 (a : Ad) : CS := (sItem (cVar 0) (cK (.int 2)) (c2 oAdd (c2 oIx (cVar 0) (cK (.int 2))) (cK (.int 1))))
def q_law_next_7 (a : Ad) : CS := (sRet (c2 oMod (c2 oDiv (c2 oIx (cVar 0) (cK (.int 0))) (cK (.int 7))) (cVar 1)))
abbrev st_law_next : Stmt := top 24
theorem nd_law_next : ([("_law_h" : Str), ("_law_limit" : Str), ("_law_cell" : Str)] : List Str).Nodup := by decide +kernel
def c_law_next (a : Ad) : CS := (sSeq (q_law_next_1 a) (sSeq (q_law_next_2 a) (sSeq (q_law_next_5 a) (sSeq (q_law_next_6 a) (q_law_next_7 a)))))
def g_law_next (a : Ad) : G := run 3 (c_law_next a)
theorem ok_law_next {P : Program} {w : World} {mg : Str → Option Value} {base : Heap} {L : Tl} {a : Ad} (X : Fx mg a) : FnC P w TheK.K mg base L 1 a.f_law_next a.d_law_next [("_law_h" : Str), ("_law_limit" : Str)] (g_law_next a) := by
  refine fn_d X.F_law_next (N := [("_law_h" : Str), ("_law_limit" : Str), ("_law_cell" : Str)]) (c := c_law_next a) (k := 0) (by conv => lhs; whnf) (by conv => lhs; whnf) ⟨rfl, rfl, rfl, nd_law_next, rfl, by decide +kernel, by decide +kernel⟩ ?_
  intro cdv A outer s H E I0 B0 hr
  exact (s_cons (s_set (i := 2) nd_law_next rfl (by first | exact Or.inl rfl | exact Or.inr rfl) (e_ix (e_op op_addA k_add (e_ix (e_var 0) e_int) (e_lst (a_cons e_int a_nil))) (e_op op_mod k_mod (e_callTy call_int1 (k_int) rfl X.z_int bt_int (a_cons (e_ix (e_var 0) e_int) a_nil)) (e_callB (call_max2 rfl) (k_max2) rfl X.z_max bt_max (a_cons e_int (a_cons (e_callB call_len (k_len rfl) rfl X.z_len bt_len (a_cons (e_ix (e_var 0) e_int) a_nil)) a_nil)))))) (s_cons (s_if (t_cmp op_ge k_ge (e_var 2) (e_op op_pow k_pow e_int e_int) rfl) (s_cons (s_item (e_op op_fdivW k_div (e_var 2) (e_var 1)) (e_ix (e_var 0) e_int) (e_op op_mod k_mod (e_callTy call_int1 (k_int) rfl X.z_int bt_int (a_cons (e_ix (e_var 0) e_int) a_nil)) (e_callB call_len (k_len rfl) rfl X.z_len bt_len (a_cons (e_ix (e_var 0) e_int) a_nil)))) (s_one (s_ret (e_op op_mod k_mod (e_callTy call_int1 (k_int) rfl X.z_int bt_int (a_cons (e_var 2) a_nil)) (e_var 1))))) s_nil) (s_cons (s_item (e_op op_mod k_mod (e_op op_addA k_add (e_op op_addA k_add (e_op op_mulA k_mul (e_ix (e_var 0) e_int) e_int) (e_op op_mulA k_mul (e_var 2) e_int)) e_int) e_int) (e_var 0) e_int) (s_cons (s_item (e_op op_addA k_add (e_ix (e_var 0) e_int) e_int) (e_var 0) e_int) (s_one (s_ret (e_op op_mod k_mod (e_op op_fdivW k_div (e_ix (e_var 0) e_int) e_int) (e_var 1))))))))
/-! ### _law_life -/
def q_law_3 (a : Ad) : CS := (sSet 3 (c2 oAdd (cK (.int 1)) (cCall (g_law_next a) (aCons (cVar 1) (aCons (cK (.int 12)) aNil)))))
def q_law_links_3 (a : Ad) : CS := (sSet 6 (cCall (g_law_next a) (aCons (cVar 0) (aCons (cVar 1) aNil))))
def q_law_links_4 (a : Ad) : CS := (sSet 7 (c2 oMod (c2 oAdd (c2 oAdd (cVar 6) (cK (.int 1))) (cCall (g_law_next a) (aCons (cVar 0) (aCons (c2 oSub (cVar 1) (cK (.int 1))) aNil)))) (cVar 1)))
def q_law_life_1 (a : Ad) : CS := (sRet (cCall (g_law_next a) (aCons (cVar 0) (aCons (c2 oIx (cLst (aCons (cK (.int 9)) (aCons (cK (.int 40)) (aCons (c2 oPow (cK (.int 10)) (cK (.int 6))) (aCons (c2 oAdd (c2 oPow (cK (.int 10)) (cK (.int 18))) (cK (.int 1))) aNil))))) (cCall (g_law_next a) (aCons (cVar 0) (aCons (cIf (tB (cVar 1)) (cK (.int 4)) (cK (.int 2))) aNil)))) aNil))))
abbrev st_law_life : Stmt := top 27
theorem nd_law_life : ([("_law_h" : Str), ("_law_wide" : Str)] : List Str).Nodup := by decide +kernel
def c_law_life (a : Ad) : CS := (q_law_life_1 a)
def g_law_life (a : Ad) : G := run 2 (c_law_life a)
theorem ok_law_life {P : Program} {w : World} {mg : Str → Option Value} {base : Heap} {L : Tl} {a : Ad} (X : Fx mg a) : FnC P w TheK.K mg base L 2 a.f_law_life a.d_law_life [("_law_h" : Str), ("_law_wide" : Str)] (g_law_life a) := by
  refine fn_d X.F_law_life (N := [("_law_h" : Str), ("_law_wide" : Str)]) (c := c_law_life a) (k := 1) (by conv => lhs; whnf) (by conv => lhs; whnf) ⟨rfl, rfl, rfl, nd_law_life, rfl, by decide +kernel, by decide +kernel⟩ ?_
  intro cdv A outer s H E I0 B0 hr
  exact (s_one (s_ret (e_call (ok_law_next X) (hr.mono (by decide)) rfl X.m_law_next X.F_law_next.kp X.b_law_next (takes_of rfl rfl rfl rfl) (a_cons (e_var 0) (a_cons (e_ix (e_lst (a_cons e_int (a_cons e_int (a_cons (e_op op_pow k_pow e_int e_int) (a_cons (e_op op_addA k_add (e_op op_pow k_pow e_int e_int) e_int) a_nil))))) (e_call (ok_law_next X) (hr.mono (by decide)) rfl X.m_law_next X.F_law_next.kp X.b_law_next (takes_of rfl rfl rfl rfl) (a_cons (e_var 0) (a_cons (e_if (t_val (e_var 1)) e_int e_int) a_nil)) (an1 (an1 an0)))) a_nil)) (an1 (an1 an0)))))
/-! ### _law_links -/
def q_law_links_5 (a : Ad) : CS := (sAppend 4 (cTup (aCons (cVar 6) (aCons (cVar 7) (aCons (c2 oAdd (cK (.int 1)) (cCall (g_law_next a) (aCons (cVar 0) (aCons (c2 oIx (cLst (aCons (cK (.int 3)) (aCons (cK (.int 99)) aNil))) (c2 oDiv (cCall (g_law_next a) (aCons (cVar 0) (aCons (cK (.int 4)) aNil))) (cK (.int 3)))) aNil)))) (aCons (cCall (g_law_life a) (aCons (cVar 0) (aCons (cVar 3) aNil))) aNil))))))
def b_law_links_2 (a : Ad) : CS := (sSeq (q_law_links_3 a) (sSeq (q_law_links_4 a) (q_law_links_5 a)))
def q_law_links_2 (a : Ad) : CS := (sFor (CL.iRange1 (cIf (tB (c2 oGt (cVar 1) (cK (.int 1)))) (cCall (g_law_next a) (aCons (cVar 0) (aCons (c2 oAdd (cVar 2) (cK (.int 1))) aNil))) (cK (.int 0)))) (gN 5) (b_law_links_2 a))
def q_law_links_6 (a : Ad) : CS := (sFrz 4 (sRet (cApp bTuple (aCons (cVar 4) aNil))))
abbrev st_law_links : Stmt := top 28
theorem nd_law_links : ([("_law_h" : Str), ("_law_count" : Str), ("_law_most" : Str), ("_law_wide" : Str), ("_law_found" : Str), ("_law_k" : Str), ("_law_one" : Str), ("_law_other" : Str)] : List Str).Nodup := by decide +kernel
def c_law_links (a : Ad) : CS := (sSeq (sSetL 4 (cLst aNil)) (sSeq (q_law_links_2 a) (q_law_links_6 a)))
def g_law_links (a : Ad) : G := run 8 (c_law_links a)
theorem ok_law_links {P : Program} {w : World} {mg : Str → Option Value} {base : Heap} {L : Tl} {a : Ad} (X : Fx mg a) : FnC P w TheK.K mg base L 3 a.f_law_links a.d_law_links [("_law_h" : Str), ("_law_count" : Str), ("_law_most" : Str), ("_law_wide" : Str)] (g_law_links a) := by
  refine fn_d X.F_law_links (N := [("_law_h" : Str), ("_law_count" : Str), ("_law_most" : Str), ("_law_wide" : Str), ("_law_found" : Str), ("_law_k" : Str), ("_law_one" : Str), ("_law_other" : Str)]) (c := c_law_links a) (k := 2) (by conv => lhs; whnf) (by conv => lhs; whnf) ⟨rfl, rfl, rfl, nd_law_links, rfl, by decide +kernel, by decide +kernel⟩ ?_
  intro cdv A outer s H E I0 B0 hr
  exact (s_cons (s_setL (i := 4) nd_law_links rfl (Or.inl rfl) (f_lst a_nil)) (s_cons (s_for (passes_of rfl) rfl (i_range1 rfl X.z_range (e_if (t_cmp op_gt k_gt (e_var 1) e_int rfl) (e_call (ok_law_next X) (hr.mono (by decide)) rfl X.m_law_next X.F_law_next.kp X.b_law_next (takes_of rfl rfl rfl rfl) (a_cons (e_var 0) (a_cons (e_op op_addA k_add (e_var 2) e_int) a_nil)) (an1 (an1 an0))) e_int)) (g_name (i := 5) nd_law_links rfl (by first | exact Or.inl rfl | exact Or.inr rfl)) (s_cons (s_set (i := 6) nd_law_links rfl (by first | exact Or.inl rfl | exact Or.inr rfl) (e_call (ok_law_next X) (hr.mono (by decide)) rfl X.m_law_next X.F_law_next.kp X.b_law_next (takes_of rfl rfl rfl rfl) (a_cons (e_var 0) (a_cons (e_var 1) a_nil)) (an1 (an1 an0)))) (s_cons (s_set (i := 7) nd_law_links rfl (by first | exact Or.inl rfl | exact Or.inr rfl) (e_op op_mod k_mod (e_op op_addA k_add (e_op op_addA k_add (e_var 6) e_int) (e_call (ok_law_next X) (hr.mono (by decide)) rfl X.m_law_next X.F_law_next.kp X.b_law_next (takes_of rfl rfl rfl rfl) (a_cons (e_var 0) (a_cons (e_op op_sub k_sub (e_var 1) e_int) a_nil)) (an1 (an1 an0)))) (e_var 1))) (s_one (s_append (i := 4) (pv 4) (e_tup (a_cons (e_var 6) (a_cons (e_var 7) (a_cons (e_op op_addA k_add e_int (e_call (ok_law_next X) (hr.mono (by decide)) rfl X.m_law_next X.F_law_next.kp X.b_law_next (takes_of rfl rfl rfl rfl) (a_cons (e_var 0) (a_cons (e_ix (e_lst (a_cons e_int (a_cons e_int a_nil))) (e_op op_fdivW k_div (e_call (ok_law_next X) (hr.mono (by decide)) rfl X.m_law_next X.F_law_next.kp X.b_law_next (takes_of rfl rfl rfl rfl) (a_cons (e_var 0) (a_cons e_int a_nil)) (an1 (an1 an0))) e_int)) a_nil)) (an1 (an1 an0)))) (a_cons (e_call (ok_law_life X) (hr.mono (by decide)) rfl X.m_law_life X.F_law_life.kp X.b_law_life (takes_of rfl rfl rfl rfl) (a_cons (e_var 0) (a_cons (e_var 3) a_nil)) (an1 (an1 an0))) a_nil)))))))))) (s_one (s_frz (i := 4) (s_ret (e_callTy call_tuple_of (k_tuple rfl) rfl X.z_tuple bt_tuple (a_cons (e_var 4) a_nil)))))))
/-! ### _law_text -/
def q_law_4 (a : Ad) : CS := (sSet 4 (cCall (g_law_links a) (aCons (cVar 1) (aCons (cVar 3) (aCons (cK (.int 6)) (aCons (cK (.bl true)) aNil))))))
def q_law_text_1 (a : Ad) : CS := (sSetL 2 (cLst (aCons (c2 oAdd (cK (.str ("places " : Str))) (cApp bStrI (aCons (cVar 0) aNil))) aNil)))
def q_law_text_3 (a : Ad) : CS := (sSet 4 (c2 oAdd (cLst (aCons (cK (.str ("bridge" : Str))) aNil)) (cLc (CL.iSeq (cVar 3)) (gN 5) tYesC (cApp bStrI (aCons (cVar 5) aNil)) [5])))
def q_law_text_4 (a : Ad) : CS := (sAppend 2 (cSm oJoin (cK (.str (" " : Str))) (cVar 4)))
def b_law_text_2 (a : Ad) : CS := (sSeq (q_law_text_3 a) (q_law_text_4 a))
def q_law_text_2 (a : Ad) : CS := (sFor (CL.iSeq (cVar 1)) (gN 3) (b_law_text_2 a))
def q_law_text_5 (a : Ad) : CS := (sFrz 2 (sRet (cSm oJoin (cK (.str ("\n" : Str))) (cVar 2))))
abbrev st_law_text : Stmt := top 30
theorem nd_law_text : ([("_law_count" : Str), ("_law_links_here" : Str), ("_law_lines" : Str), ("_law_link" : Str), ("_law_words" : Str), ("_law_number" : Str)] : List Str).Nodup := by decide +kernel
def c_law_text (a : Ad) : CS := (sSeq (q_law_text_1 a) (sSeq (q_law_text_2 a) (q_law_text_5 a)))
def g_law_text (a : Ad) : G := run 6 (c_law_text a)
theorem ok_law_text {P : Program} {w : World} {mg : Str → Option Value} {base : Heap} {L : Tl} {a : Ad} (X : Fx mg a) : FnC P w TheK.K mg base L 1 a.f_law_text a.d_law_text [("_law_count" : Str), ("_law_links_here" : Str)] (g_law_text a) := by
  refine fn_d X.F_law_text (N := [("_law_count" : Str), ("_law_links_here" : Str), ("_law_lines" : Str), ("_law_link" : Str), ("_law_words" : Str), ("_law_number" : Str)]) (c := c_law_text a) (k := 0) (by conv => lhs; whnf) (by conv => lhs; whnf) ⟨rfl, rfl, rfl, nd_law_text, rfl, by decide +kernel, by decide +kernel⟩ ?_
  intro cdv A outer s H E I0 B0 hr
  exact (s_cons (s_setL (i := 2) nd_law_text rfl (Or.inl rfl) (f_lst (a_cons (e_op op_addA k_add e_str (e_callTy call_str_int (k_strI) rfl X.z_str bt_str (a_cons (e_var 0) a_nil))) a_nil))) (s_cons (s_for (passes_of rfl) rfl (i_seq (e_var 1)) (g_name (i := 3) nd_law_text rfl (by first | exact Or.inl rfl | exact Or.inr rfl)) (s_cons (s_set (i := 4) nd_law_text rfl (by first | exact Or.inl rfl | exact Or.inr rfl) (e_op op_addA k_add (e_lst (a_cons e_str a_nil)) (e_lc rfl nd_law_text (own := [(("_law_number" : Str), 5)]) (by conv => lhs; whnf) (by conv => lhs; whnf) (by decide +kernel) (i_seq (e_var 3)) (fun _ _ _ _ _ => (gw_name (i := 5) nd_law_text rfl (by first | exact Or.inl rfl | exact Or.inr rfl) (by decide))) (fun _ _ _ _ _ => ts_nil) (fun _ _ _ _ _ => (e_callTy call_str_int (k_strI) rfl X.z_str bt_str (a_cons (e_var 5) a_nil)))))) (s_one (s_append (i := 2) (pv 2) (e_join e_str (e_var 4)))))) (s_one (s_frz (i := 2) (s_ret (e_join e_str (e_var 2)))))))
/-! ### Town.is_bridge -/
def q_Town__init_2 (a : Ad) : CS := (sRaiseK a.C_InvalidTown [("part" : Str), ("index" : Str)] (aCons (cK (.str ("count" : Str))) (aCons (cK (.int 0)) aNil)))
def q_Town__init_1 (a : Ad) : CS := (sIf (tNot (tB (cChain oLe oLe (cK (.int 1)) (cVar 1) (cVal a.C_Town (.int 12) (cK (.ref a.C_Town)))))) (q_Town__init_2 a) sNil)
def q_Town_is_bridge_1 (a : Ad) : CS := (sIf (tB (c2 (oEq true) (cApp bLen (aCons (cVar 1) aNil)) (cK (.int 4)))) (sRet (cK (.bl false))) sNil)
def q_Town_is_bridge_3 (a : Ad) : CS := (sAsg (cVar 1) (CL.gTup 4 (gCons (gN 2) (gCons (gN 3) (gCons (gN 4) (gCons (gN 5) gNil))))))
def q_Town_is_bridge_4 (a : Ad) : CS := (sIf (CL.tOr (tNot (tB (cChain oLe oLt (cK (.int 0)) (cVar 2) (cVar 0)))) (CL.tOr (tNot (tB (cChain oLe oLt (cK (.int 0)) (cVar 3) (cVar 0)))) (tB (c2 (oEq false) (cVar 2) (cVar 3))))) (sRet (cK (.bl false))) sNil)
def q_Town_is_bridge_6 (a : Ad) : CS := (sRet (cAnd (cChain oLe oLe (cK (.int 1)) (cVar 4) (cK (.int 99))) (cChain oLe oLe (cK (.int 0)) (cVar 5) (cVal a.C_Town (.int 1000000000000000000) (cK (.ref a.C_Town))))))
abbrev st_Town_is_bridge : Stmt := inClass (top 21) 4
theorem nd_Town_is_bridge : ([("count" : Str), ("bridge" : Str), ("one" : Str), ("other" : Str), ("length" : Str), ("life" : Str)] : List Str).Nodup := by decide +kernel
def c_Town_is_bridge (a : Ad) : CS := (sSeq (q_Town_is_bridge_1 a) (sSeq (q_Town_is_bridge_3 a) (sSeq (q_Town_is_bridge_4 a) (q_Town_is_bridge_6 a))))
def g_Town_is_bridge (a : Ad) : G := run 6 (c_Town_is_bridge a)
theorem ok_Town_is_bridge {P : Program} {w : World} {mg : Str → Option Value} {base : Heap} {L : Tl} {a : Ad} (X : Fx mg a) : FnC P w TheK.K mg base L 1 a.f_Town_is_bridge a.d_Town_is_bridge [("count" : Str), ("bridge" : Str)] (g_Town_is_bridge a) := by
  refine fn_d X.F_Town_is_bridge (N := [("count" : Str), ("bridge" : Str), ("one" : Str), ("other" : Str), ("length" : Str), ("life" : Str)]) (c := c_Town_is_bridge a) (k := 0) (by conv => lhs; whnf) (by conv => lhs; whnf) ⟨rfl, rfl, rfl, nd_Town_is_bridge, rfl, by decide +kernel, by decide +kernel⟩ ?_
  intro cdv A outer s H E I0 B0 hr
  exact (s_cons (s_if (t_cmp (op_neD hr.units) k_ne (e_callB call_len (k_len rfl) rfl X.z_len bt_len (a_cons (e_var 1) a_nil)) e_int rfl) (s_one (s_ret e_bl)) s_nil) (s_cons (s_asg (e_var 1) (g_tup rfl (g_cons (g_name (i := 2) nd_Town_is_bridge rfl (by first | exact Or.inl rfl | exact Or.inr rfl)) (g_cons (g_name (i := 3) nd_Town_is_bridge rfl (by first | exact Or.inl rfl | exact Or.inr rfl)) (g_cons (g_name (i := 4) nd_Town_is_bridge rfl (by first | exact Or.inl rfl | exact Or.inr rfl)) (g_cons (g_name (i := 5) nd_Town_is_bridge rfl (by first | exact Or.inl rfl | exact Or.inr rfl)) g_nil)))))) (s_cons (s_if (t_w (w_or (CL.t_not (t_chain op_le op_lt k_le k_lt e_int (e_var 2) (e_var 0))) (w_or (CL.t_not (t_chain op_le op_lt k_le k_lt e_int (e_var 3) (e_var 0))) (w_or1 (t_cmp (op_eqD hr.units) k_eq (e_var 2) (e_var 3) rfl))))) (s_one (s_ret e_bl)) s_nil) (s_one (s_ret (e_and (e_chain op_le op_le k_le k_le e_int (e_var 4) (e_globI rfl X.m_MAX_LENGTH)) (e_one (e_chain op_le op_le k_le k_le e_int (e_var 5) (e_cval (e_glob rfl X.m_Town) X.r_Town X.v_Town_MAX_LIFE fun _ _ => rfl)))))))))
/-! ### Town.__init__ -/
def q_Town__init_5 (a : Ad) : CS := (sRaiseK a.C_InvalidTown [("part" : Str), ("index" : Str)] (aCons (cK (.str ("bridges" : Str))) (aCons (cVar 3) aNil)))
def q_Town__init_4 (a : Ad) : CS := (sIf (CL.tOr (tB (c2 (oEq false) (cVar 3) (cVal a.C_Town (.int 24) (cK (.ref a.C_Town))))) (tNot (tB (cStat a.C_Town (g_Town_is_bridge a) (cK (.ref a.C_Town)) (aCons (cVar 1) (aCons (cVar 4) aNil)))))) (q_Town__init_5 a) sNil)
def q_Town__init_3 (a : Ad) : CS := (sFor (CL.iEnum (cVar 2)) (CL.gTup 2 (gCons (gN 3) (gCons (gN 4) gNil))) (q_Town__init_4 a))
def q_Town__init_6 (a : Ad) : CS := (sField a.C_Town ("size" : Str) (cVar 0) (cVar 1))
def q_Town__init_7 (a : Ad) : CS := (sField a.C_Town ("links" : Str) (cVar 0) (cVar 2))
abbrev st_Town__init : Stmt := inClass (top 21) 3
theorem nd_Town__init : ([("self" : Str), ("count" : Str), ("bridges" : Str), ("index" : Str), ("bridge" : Str)] : List Str).Nodup := by decide +kernel
def c_Town__init (a : Ad) : CS := (sSeq (q_Town__init_1 a) (sSeq (q_Town__init_3 a) (sSeq (q_Town__init_6 a) (q_Town__init_7 a))))
def g_Town__init (a : Ad) : G := run 5 (c_Town__init a)
theorem ok_Town__init {P : Program} {w : World} {mg : Str → Option Value} {base : Heap} {L : Tl} {a : Ad} (X : Fx mg a) : FnC P w TheK.K mg base L 3 a.f_Town__init a.d_Town__init [("self" : Str), ("count" : Str), ("bridges" : Str)] (g_Town__init a) := by
  refine fn_d X.F_Town__init (N := [("self" : Str), ("count" : Str), ("bridges" : Str), ("index" : Str), ("bridge" : Str)]) (c := c_Town__init a) (k := 2) (by conv => lhs; whnf) (by conv => lhs; whnf) ⟨rfl, rfl, rfl, nd_Town__init, rfl, by decide +kernel, by decide +kernel⟩ ?_
  intro cdv A outer s H E I0 B0 hr
  exact (s_cons (s_if (CL.t_not (t_chain op_le op_le k_le k_le e_int (e_var 1) (e_cval (e_glob rfl X.m_Town) X.r_Town X.v_Town_MAX_PLACES fun _ _ => rfl))) (s_one (s_raiseK rfl (takes_of rfl rfl rfl rfl) (X.x_InvalidTown w base) (hr.mono (by decide)) rfl X.m_InvalidTown (kw_cons e_str (kw_cons e_int kw_nil)))) s_nil) (s_cons (s_for (passes_of rfl) rfl (i_enum rfl X.z_enumerate (e_var 2)) (g_tup rfl (g_cons (g_name (i := 3) nd_Town__init rfl (by first | exact Or.inl rfl | exact Or.inr rfl)) (g_cons (g_name (i := 4) nd_Town__init rfl (by first | exact Or.inl rfl | exact Or.inr rfl)) g_nil))) (s_one (s_if (t_w (w_or (t_cmp (op_eqD hr.units) k_eq (e_var 3) (e_cval (e_glob rfl X.m_Town) X.r_Town X.v_Town_MAX_BRIDGES fun _ _ => rfl) rfl) (w_or1 (CL.t_not (t_val (e_stat (e_glob rfl X.m_Town) X.r_Town X.s_Town_is_bridge (ok_Town_is_bridge X) (hr.mono (by decide)) X.b_Town_is_bridge (takes_of rfl rfl rfl rfl) (a_cons (e_var 1) (a_cons (e_var 4) a_nil)) (an1 (an1 an0)))))))) (s_one (s_raiseK rfl (takes_of rfl rfl rfl rfl) (X.x_InvalidTown w base) (hr.mono (by decide)) rfl X.m_InvalidTown (kw_cons e_str (kw_cons (e_var 3) kw_nil)))) s_nil))) (s_cons (s_field (e_var 0) (e_var 1) X.c_Town X.n_Town_size) (s_one (s_field (e_var 0) (e_var 2) X.c_Town X.n_Town_links)))))
/-! ### parse_numbers -/
def q_law_5 (a : Ad) : CS := (sAsg (cTup (aCons (cMake a.C_Town (g_Town__init a) (aCons (cVar 3) (aCons (cVar 4) aNil))) (aCons (cCall (g_law_text a) (aCons (cVar 3) (aCons (cVar 4) aNil))) aNil))) (CL.gTup 2 (gCons (gN 5) (gCons (gN 6) gNil))))
def q_Town_parse_1 (a : Ad) : CS := (sStar 2 3 (cLc (CL.iSeq (cSm oSplit (cVar 1) (cK (.str ("\n" : Str))))) (gN 9) tYesC (cSm oSplit (cVar 9) (cK (.str (" " : Str)))) [9]))
def q_parse_numbers_2 (a : Ad) : CS := (sIf (CL.tOr (tB (c2 (oEq false) (cVar 1) (cK (.str ("" : Str))))) (CL.tOr (tB (c2 (oEq true) (cLc (iStrC (cVar 1)) (gN 2) (tB (c2 (oInS true) (cVar 2) (cK (.str ("0123456789" : Str))))) (cVar 2) [2]) (cLst aNil))) (CL.tAnd (tB (c2 oGt (cApp bLen (aCons (cVar 1) aNil)) (cK (.int 1)))) (tB (c2 (oEq false) (c2 oIxS (cVar 1) (cK (.int 0))) (cK (.str ("0" : Str)))))))) (sRet (cK .non)) sNil)
def q_parse_numbers_1 (a : Ad) : CS := (sFor (CL.iSeq (cVar 0)) (gN 1) (q_parse_numbers_2 a))
def q_parse_numbers_4 (a : Ad) : CS := (sRet (cLc (CL.iSeq (cVar 0)) (gN 1) tYesC (cApp bIntS (aCons (cVar 1) aNil)) [1]))
abbrev st_parse_numbers : Stmt := top 20
theorem nd_parse_numbers : ([("words" : Str), ("word" : Str), ("digit" : Str)] : List Str).Nodup := by decide +kernel
def c_parse_numbers (a : Ad) : CS := (sSeq (q_parse_numbers_1 a) (q_parse_numbers_4 a))
def g_parse_numbers (a : Ad) : G := run 3 (c_parse_numbers a)
theorem ok_parse_numbers {P : Program} {w : World} {mg : Str → Option Value} {base : Heap} {L : Tl} {a : Ad} (X : Fx mg a) : FnC P w TheK.K mg base L 1 a.f_parse_numbers a.d_parse_numbers [("words" : Str)] (g_parse_numbers a) := by
  refine fn_d X.F_parse_numbers (N := [("words" : Str), ("word" : Str), ("digit" : Str)]) (c := c_parse_numbers a) (k := 0) (by conv => lhs; whnf) (by conv => lhs; whnf) ⟨rfl, rfl, rfl, nd_parse_numbers, rfl, by decide +kernel, by decide +kernel⟩ ?_
  intro cdv A outer s H E I0 B0 hr
  exact (s_cons (s_for (passes_of rfl) rfl (i_seq (e_var 0)) (g_name (i := 1) nd_parse_numbers rfl (by first | exact Or.inl rfl | exact Or.inr rfl)) (s_one (s_if (t_w (w_or (t_cmp (op_eqD hr.units) k_eq (e_var 1) e_str rfl) (w_or (t_cmp (op_neD hr.units) k_ne (e_lc rfl nd_parse_numbers (own := [(("digit" : Str), 2)]) (by conv => lhs; whnf) (by conv => lhs; whnf) (by decide +kernel) (i_str (e_var 1)) (fun _ _ _ _ _ => (gw_name (i := 2) nd_parse_numbers rfl (by first | exact Or.inl rfl | exact Or.inr rfl) (by decide))) (fun _ _ _ _ _ => (ts_one (t_cmp op_notIn_sign k_notInS (e_var 2) (e_globS rfl X.m_DIGITS) rfl))) (fun _ _ _ _ _ => (e_var 2))) (e_lst a_nil) rfl) (w_or1 (t_w (w_and (t_cmp op_gt k_gt (e_callB call_len (k_len rfl) rfl X.z_len bt_len (a_cons (e_var 1) a_nil)) e_int rfl) (w_and1 (t_cmp (op_eqD hr.units) k_eq (e_ixS (e_var 1) e_int) e_str rfl)))))))) (s_one (s_ret e_non)) s_nil))) (s_one (s_ret (e_lc rfl nd_parse_numbers (own := [(("word" : Str), 1)]) (by conv => lhs; whnf) (by conv => lhs; whnf) (by decide +kernel) (i_seq (e_var 0)) (fun _ _ _ _ _ => (gw_name (i := 1) nd_parse_numbers rfl (by first | exact Or.inl rfl | exact Or.inr rfl) (by decide))) (fun _ _ _ _ _ => ts_nil) (fun _ _ _ _ _ => (e_callTy call_int_str k_intS rfl X.z_int bt_int (a_cons (e_var 1) a_nil)))))))
/-! ### Town.parse -/
def q_Town_parse_2 (a : Ad) : CS := (sSet 4 (cCall (g_parse_numbers a) (aCons (cCut (cVar 2) (oSome (cK (.int 1))) oNone) aNil)))
def q_Town_parse_4 (a : Ad) : CS := (sRaiseK a.C_InvalidText [("row" : Str)] (aCons (cK (.int 0)) aNil))
def q_Town_parse_3 (a : Ad) : CS := (sIf (CL.tOr (tB (c2 (oEq true) (c2 oIx (cVar 2) (cK (.int 0))) (cK (.str ("places" : Str))))) (CL.tOr (tB (c2 xIsN (cVar 4) (cK .non))) (tB (c2 (oEq true) (cApp bLen (aCons (cVar 4) aNil)) (cK (.int 1)))))) (q_Town_parse_4 a) sNil)
def q_Town_parse_7 (a : Ad) : CS := (sSet 8 (cCall (g_parse_numbers a) (aCons (cCut (cVar 7) (oSome (cK (.int 1))) oNone) aNil)))
def q_Town_parse_9 (a : Ad) : CS := (sRaiseK a.C_InvalidText [("row" : Str)] (aCons (c2 oAdd (cVar 6) (cK (.int 1))) aNil))
def q_Town_parse_8 (a : Ad) : CS := (sIf (CL.tOr (tB (c2 (oEq true) (c2 oIx (cVar 7) (cK (.int 0))) (cK (.str ("bridge" : Str))))) (CL.tOr (tB (c2 xIsN (cVar 8) (cK .non))) (tB (c2 (oEq true) (cApp bLen (aCons (cVar 8) aNil)) (cK (.int 4)))))) (q_Town_parse_9 a) sNil)
def q_Town_parse_10 (a : Ad) : CS := (sAppend 5 (cApp bTuple (aCons (cVar 8) aNil)))
def b_Town_parse_6 (a : Ad) : CS := (sSeq (q_Town_parse_7 a) (sSeq (q_Town_parse_8 a) (q_Town_parse_10 a)))
def q_Town_parse_6 (a : Ad) : CS := (sFor (CL.iEnum (cVar 3)) (CL.gTup 2 (gCons (gN 6) (gCons (gN 7) gNil))) (b_Town_parse_6 a))
def q_Town_parse_11 (a : Ad) : CS := (sFrz 5 (sRet (cMakeL 0 a.C_Town (g_Town__init a) (aCons (c2 oIx (cVar 4) (cK (.int 0))) (aCons (cApp bTuple (aCons (cVar 5) aNil)) aNil)))))
abbrev st_Town_parse : Stmt := inClass (top 21) 5
theorem nd_Town_parse : ([("cls" : Str), ("text" : Str), ("first" : Str), ("others" : Str), ("counts" : Str), ("bridges" : Str), ("index" : Str), ("words" : Str), ("numbers" : Str), ("line" : Str)] : List Str).Nodup := by decide +kernel
def c_Town_parse (a : Ad) : CS := (sSeq (q_Town_parse_1 a) (sSeq (q_Town_parse_2 a) (sSeq (q_Town_parse_3 a) (sSeq (sSetL 5 (cLst aNil)) (sSeq (q_Town_parse_6 a) (q_Town_parse_11 a))))))
def g_Town_parse (a : Ad) : G := run 10 (c_Town_parse a)
theorem ok_Town_parse {P : Program} {w : World} {mg : Str → Option Value} {base : Heap} {L : Tl} {a : Ad} (X : Fx mg a) : FnC P w TheK.K mg base L 6 a.f_Town_parse a.d_Town_parse [("cls" : Str), ("text" : Str)] (g_Town_parse a) := by
  refine fn_d X.F_Town_parse (N := [("cls" : Str), ("text" : Str), ("first" : Str), ("others" : Str), ("counts" : Str), ("bridges" : Str), ("index" : Str), ("words" : Str), ("numbers" : Str), ("line" : Str)]) (c := c_Town_parse a) (k := 5) (by conv => lhs; whnf) (by conv => lhs; whnf) ⟨rfl, rfl, rfl, nd_Town_parse, rfl, by decide +kernel, by decide +kernel⟩ ?_
  intro cdv A outer s H E I0 B0 hr
  exact (s_cons (s_star (i := 2) (j := 3) rfl nd_Town_parse rfl rfl (by first | exact Or.inl rfl | exact Or.inr rfl) (by first | exact Or.inl rfl | exact Or.inr rfl) (e_lc rfl nd_Town_parse (own := [(("line" : Str), 9)]) (by conv => lhs; whnf) (by conv => lhs; whnf) (by decide +kernel) (i_seq (e_split (e_var 1) e_str)) (fun _ _ _ _ _ => (gw_name (i := 9) nd_Town_parse rfl (by first | exact Or.inl rfl | exact Or.inr rfl) (by decide))) (fun _ _ _ _ _ => ts_nil) (fun _ _ _ _ _ => (e_split (e_var 9) e_str)))) (s_cons (s_set (i := 4) nd_Town_parse rfl (by first | exact Or.inl rfl | exact Or.inr rfl) (e_call (ok_parse_numbers X) (hr.mono (by decide)) rfl X.m_parse_numbers X.F_parse_numbers.kp X.b_parse_numbers (takes_of rfl rfl rfl rfl) (a_cons (e_cut (e_var 2) (o_some e_int) o_none) a_nil) (an1 an0))) (s_cons (s_if (t_w (w_or (t_cmp (op_neD hr.units) k_ne (e_ix (e_var 2) e_int) (e_globS rfl X.m_PLACES) rfl) (w_or (t_cmp op_isN k_isN (e_var 4) e_non rfl) (w_or1 (t_cmp (op_neD hr.units) k_ne (e_callB call_len (k_len rfl) rfl X.z_len bt_len (a_cons (e_var 4) a_nil)) e_int rfl))))) (s_one (s_raiseK rfl (takes_of rfl rfl rfl rfl) (X.x_InvalidText w base) (hr.mono (by decide)) rfl X.m_InvalidText (kw_cons e_int kw_nil))) s_nil) (s_cons (s_setL (i := 5) nd_Town_parse rfl (Or.inl rfl) (f_lst a_nil)) (s_cons (s_for (passes_of rfl) rfl (i_enum rfl X.z_enumerate (e_var 3)) (g_tup rfl (g_cons (g_name (i := 6) nd_Town_parse rfl (by first | exact Or.inl rfl | exact Or.inr rfl)) (g_cons (g_name (i := 7) nd_Town_parse rfl (by first | exact Or.inl rfl | exact Or.inr rfl)) g_nil))) (s_cons (s_set (i := 8) nd_Town_parse rfl (by first | exact Or.inl rfl | exact Or.inr rfl) (e_call (ok_parse_numbers X) (hr.mono (by decide)) rfl X.m_parse_numbers X.F_parse_numbers.kp X.b_parse_numbers (takes_of rfl rfl rfl rfl) (a_cons (e_cut (e_var 7) (o_some e_int) o_none) a_nil) (an1 an0))) (s_cons (s_if (t_w (w_or (t_cmp (op_neD hr.units) k_ne (e_ix (e_var 7) e_int) (e_globS rfl X.m_BRIDGE) rfl) (w_or (t_cmp op_isN k_isN (e_var 8) e_non rfl) (w_or1 (t_cmp (op_neD hr.units) k_ne (e_callB call_len (k_len rfl) rfl X.z_len bt_len (a_cons (e_var 8) a_nil)) e_int rfl))))) (s_one (s_raiseK rfl (takes_of rfl rfl rfl rfl) (X.x_InvalidText w base) (hr.mono (by decide)) rfl X.m_InvalidText (kw_cons (e_op op_addA k_add (e_var 6) e_int) kw_nil))) s_nil) (s_one (s_append (i := 5) (pv 5) (e_callTy call_tuple_of (k_tuple rfl) rfl X.z_tuple bt_tuple (a_cons (e_var 8) a_nil))))))) (s_one (s_frz (i := 5) (s_ret (e_makeL (i := 0) X.k_Town (ok_Town__init X) (hr.mono (by decide)) rfl (Or.inl rfl) X.b_Town__init (passes_call (takes_of rfl rfl rfl rfl) fun _ _ _ _ h => h) (a_cons (e_ix (e_var 4) e_int) (a_cons (e_callTy call_tuple_of (k_tuple rfl) rfl X.z_tuple bt_tuple (a_cons (e_var 5) a_nil)) a_nil)) (an1 (an1 an0)) rfl)))))))))
/-! ### Town.bridges -/
def q_Town_bridges_1 (a : Ad) : CS := (sRet (cFld a.C_Town ("links" : Str) (cVar 0)))
abbrev st_Town_bridges : Stmt := inClass (top 21) 7
theorem nd_Town_bridges : ([("self" : Str)] : List Str).Nodup := by decide +kernel
def c_Town_bridges (a : Ad) : CS := (q_Town_bridges_1 a)
def g_Town_bridges (a : Ad) : G := run 1 (c_Town_bridges a)
theorem ok_Town_bridges {P : Program} {w : World} {mg : Str → Option Value} {base : Heap} {L : Tl} {a : Ad} (X : Fx mg a) : FnC P w TheK.K mg base L 1 a.f_Town_bridges a.d_Town_bridges [("self" : Str)] (g_Town_bridges a) := by
  refine fn_d X.F_Town_bridges (N := [("self" : Str)]) (c := c_Town_bridges a) (k := 0) (by conv => lhs; whnf) (by conv => lhs; whnf) ⟨rfl, rfl, rfl, nd_Town_bridges, rfl, by decide +kernel, by decide +kernel⟩ ?_
  intro cdv A outer s H E I0 B0 hr
  exact (s_one (s_ret (e_fld ("links" : Str) (e_var 0) X.c_Town X.n_Town_links)))
/-! ### _law_alike -/
def q_law_alike_1 (a : Ad) (gr : G) : CS := (sIf (tB (cApp bIsi (aCons (cVar 1) (aCons (cK (.ty "dict")) aNil)))) sNever sNil)
def q_law_alike_4 (a : Ad) (gr : G) : CS := (sIf (CL.tOr (tNot (tB (cApp bIsi (aCons (cVar 0) (aCons (cTup (aCons (cK (.ty "tuple")) (aCons (cK (.ty "list")) aNil))) aNil))))) (tB (c2 (oEq true) (cApp bIsi (aCons (cVar 0) (aCons (cK (.ty "list")) aNil))) (cApp bIsi (aCons (cVar 1) (aCons (cK (.ty "list")) aNil)))))) (sRet (cK (.bl false))) sNil)
def q_law_alike_6 (a : Ad) (gr : G) : CS := (sIf (tB (c2 (oEq true) (cApp bLen (aCons (cVar 0) aNil)) (cApp bLen (aCons (cVar 1) aNil)))) (sRet (cK (.bl false))) sNil)
def q_law_alike_8 (a : Ad) (gr : G) : CS := (sRet (c2 (oEq false) (cLc (CL.iRange1 (cApp bLen (aCons (cVar 1) aNil))) (gN 2) (tNot (tB (cCall gr (aCons (c2 oIx (cVar 0) (cVar 2)) (aCons (c2 oIx (cVar 1) (cVar 2)) aNil))))) (cVar 2) [2]) (cLst aNil)))
def q_law_alike_3 (a : Ad) (gr : G) : CS := (sIf (tB (cApp bIsi (aCons (cVar 1) (aCons (cTup (aCons (cK (.ty "tuple")) (aCons (cK (.ty "list")) aNil))) aNil)))) (sSeq (q_law_alike_4 a gr) (sSeq (q_law_alike_6 a gr) (q_law_alike_8 a gr))) sNil)
def q_law_alike_10 (a : Ad) (gr : G) : CS := (sRet (cAnd (c2 (oEq false) (cVar 0) (cVar 1)) (c2 (oEq false) (cApp bIsi (aCons (cVar 0) (aCons (cK (.ty "str")) aNil))) (cApp bIsi (aCons (cVar 1) (aCons (cK (.ty "str")) aNil))))))
def q_law_alike_9 (a : Ad) (gr : G) : CS := (sIf (CL.tOr (tB (c2 xIsN (cVar 1) (cK .non))) (tB (cApp bIsi (aCons (cVar 1) (aCons (cK (.ty "str")) aNil))))) (q_law_alike_10 a gr) sNil)
def q_law_alike_11 (a : Ad) (gr : G) : CS := (sRet (cAnd (cApp bIsi (aCons (cVar 0) (aCons (cK (.ty "int")) aNil))) (cAnd (c2 (oEq false) (cApp bIsi (aCons (cVar 0) (aCons (cK (.ty "bool")) aNil))) (cApp bIsi (aCons (cVar 1) (aCons (cK (.ty "bool")) aNil)))) (c2 (oEq false) (cVar 0) (cVar 1)))))
abbrev st_law_alike : Stmt := top 25
theorem nd_law_alike : ([("_law_found" : Str), ("_law_due" : Str), ("_law_k" : Str)] : List Str).Nodup := by decide +kernel
def c_law_alike (a : Ad) (gr : G) : CS := (sSeq (q_law_alike_1 a gr) (sSeq (q_law_alike_3 a gr) (sSeq (q_law_alike_9 a gr) (q_law_alike_11 a gr))))
def g_law_alike (a : Ad) : Nat → G
  | 0 => fun _ _ => .bad
  | n + 1 => run 3 (c_law_alike a (g_law_alike a n))
theorem ok_law_alike {P : Program} {w : World} {mg : Str → Option Value} {base : Heap} {L : Tl} {a : Ad} : ∀ (n : Nat) (X : Fx mg a), FnC P w TheK.K mg base L (1 + n) a.f_law_alike a.d_law_alike [("_law_found" : Str), ("_law_due" : Str)] (g_law_alike a n)
  | 0, X => FnC.no
  | n + 1, X => by
    have hrec := ok_law_alike (P := P) (w := w) (base := base) (L := L) n X
    refine fn_d X.F_law_alike (N := [("_law_found" : Str), ("_law_due" : Str), ("_law_k" : Str)]) (c := c_law_alike a (g_law_alike a n)) (k := 1 + n) (by conv => lhs; whnf) (by conv => lhs; whnf) ⟨rfl, rfl, rfl, nd_law_alike, rfl, by decide +kernel, by decide +kernel⟩ ?_
    intro cdv A outer s H E I0 B0 hr
    exact (s_cons (s_if (t_val (e_callB (callR_or call_isi call_isiT) (k_isi rfl) rfl X.z_isinstance bt_isinstance (a_cons (e_var 1) (a_cons (e_ty rfl X.z_dict bt_dict) a_nil)))) (s_one s_never) s_nil) (s_cons (s_if (t_val (e_callB (callR_or call_isi call_isiT) (k_isi rfl) rfl X.z_isinstance bt_isinstance (a_cons (e_var 1) (a_cons (e_tup (a_cons (e_ty rfl X.z_tuple bt_tuple) (a_cons (e_ty rfl X.z_list bt_list) a_nil))) a_nil)))) (s_cons (s_if (t_w (w_or (CL.t_not (t_val (e_callB (callR_or call_isi call_isiT) (k_isi rfl) rfl X.z_isinstance bt_isinstance (a_cons (e_var 0) (a_cons (e_tup (a_cons (e_ty rfl X.z_tuple bt_tuple) (a_cons (e_ty rfl X.z_list bt_list) a_nil))) a_nil))))) (w_or1 (t_cmp (op_neD hr.units) k_ne (e_callB (callR_or call_isi call_isiT) (k_isi rfl) rfl X.z_isinstance bt_isinstance (a_cons (e_var 0) (a_cons (e_ty rfl X.z_list bt_list) a_nil))) (e_callB (callR_or call_isi call_isiT) (k_isi rfl) rfl X.z_isinstance bt_isinstance (a_cons (e_var 1) (a_cons (e_ty rfl X.z_list bt_list) a_nil))) rfl)))) (s_one (s_ret e_bl)) s_nil) (s_cons (s_if (t_cmp (op_neD hr.units) k_ne (e_callB call_len (k_len rfl) rfl X.z_len bt_len (a_cons (e_var 0) a_nil)) (e_callB call_len (k_len rfl) rfl X.z_len bt_len (a_cons (e_var 1) a_nil)) rfl) (s_one (s_ret e_bl)) s_nil) (s_one (s_ret (e_cmp (op_eqD hr.units) k_eq (e_lc rfl nd_law_alike (own := [(("_law_k" : Str), 2)]) (by conv => lhs; whnf) (by conv => lhs; whnf) (by decide +kernel) (i_range1 rfl X.z_range (e_callB call_len (k_len rfl) rfl X.z_len bt_len (a_cons (e_var 1) a_nil))) (fun _ _ _ _ _ => (gw_name (i := 2) nd_law_alike rfl (by first | exact Or.inl rfl | exact Or.inr rfl) (by decide))) (fun _ _ _ _ _ => (ts_one (CL.t_not (t_val (e_call hrec (hr.mono (by omega)) rfl X.m_law_alike X.F_law_alike.kp X.b_law_alike takes0 (a_cons (e_ix (e_var 0) (e_var 2)) (a_cons (e_ix (e_var 1) (e_var 2)) a_nil)) (an1 (an1 an0))))))) (fun _ _ _ _ _ => (e_var 2))) (e_lst a_nil) rfl))))) s_nil) (s_cons (s_if (t_w (w_or (t_cmp op_isN k_isN (e_var 1) e_non rfl) (w_or1 (t_val (e_callB (callR_or call_isi call_isiT) (k_isi rfl) rfl X.z_isinstance bt_isinstance (a_cons (e_var 1) (a_cons (e_ty rfl X.z_str bt_str) a_nil))))))) (s_one (s_ret (e_and (e_cmp (op_eqD hr.units) k_eq (e_var 0) (e_var 1) rfl) (e_one (e_cmp (op_eqD hr.units) k_eq (e_callB (callR_or call_isi call_isiT) (k_isi rfl) rfl X.z_isinstance bt_isinstance (a_cons (e_var 0) (a_cons (e_ty rfl X.z_str bt_str) a_nil))) (e_callB (callR_or call_isi call_isiT) (k_isi rfl) rfl X.z_isinstance bt_isinstance (a_cons (e_var 1) (a_cons (e_ty rfl X.z_str bt_str) a_nil))) rfl))))) s_nil) (s_one (s_ret (e_and (e_callB (callR_or call_isi call_isiT) (k_isi rfl) rfl X.z_isinstance bt_isinstance (a_cons (e_var 0) (a_cons (e_ty rfl X.z_int bt_int) a_nil))) (e_and (e_cmp (op_eqD hr.units) k_eq (e_callB (callR_or call_isi call_isiT) (k_isi rfl) rfl X.z_isinstance bt_isinstance (a_cons (e_var 0) (a_cons (e_ty rfl X.z_bool bt_bool) a_nil))) (e_callB (callR_or call_isi call_isiT) (k_isi rfl) rfl X.z_isinstance bt_isinstance (a_cons (e_var 1) (a_cons (e_ty rfl X.z_bool bt_bool) a_nil))) rfl) (e_one (e_cmp (op_eqD hr.units) k_eq (e_var 0) (e_var 1) rfl)))))))))
/-! ### Town.text -/
def q_Town_text_1 (a : Ad) : CS := (sSetL 1 (cLst (aCons (cSm oJoin (cK (.str (" " : Str))) (cLst (aCons (cK (.str ("places" : Str))) (aCons (cApp bStrI (aCons (cFld a.C_Town ("size" : Str) (cVar 0)) aNil)) aNil)))) aNil)))
def q_Town_text_3 (a : Ad) : CS := (sAppend 1 (cSm oJoin (cK (.str (" " : Str))) (c2 oAdd (cLst (aCons (cK (.str ("bridge" : Str))) aNil)) (cLc (CL.iSeq (cVar 2)) (gN 3) tYesC (cApp bStrI (aCons (cVar 3) aNil)) [3]))))
def q_Town_text_2 (a : Ad) : CS := (sFor (CL.iSeq (cFld a.C_Town ("links" : Str) (cVar 0))) (gN 2) (q_Town_text_3 a))
def q_Town_text_4 (a : Ad) : CS := (sFrz 1 (sRet (cSm oJoin (cK (.str ("\n" : Str))) (cVar 1))))
abbrev st_Town_text : Stmt := inClass (top 21) 9
theorem nd_Town_text : ([("self" : Str), ("lines" : Str), ("bridge" : Str), ("number" : Str)] : List Str).Nodup := by decide +kernel
def c_Town_text (a : Ad) : CS := (sSeq (q_Town_text_1 a) (sSeq (q_Town_text_2 a) (q_Town_text_4 a)))
def g_Town_text (a : Ad) : G := run 4 (c_Town_text a)
theorem ok_Town_text {P : Program} {w : World} {mg : Str → Option Value} {base : Heap} {L : Tl} {a : Ad} (X : Fx mg a) : FnC P w TheK.K mg base L 1 a.f_Town_text a.d_Town_text [("self" : Str)] (g_Town_text a) := by
  refine fn_d X.F_Town_text (N := [("self" : Str), ("lines" : Str), ("bridge" : Str), ("number" : Str)]) (c := c_Town_text a) (k := 0) (by conv => lhs; whnf) (by conv => lhs; whnf) ⟨rfl, rfl, rfl, nd_Town_text, rfl, by decide +kernel, by decide +kernel⟩ ?_
  intro cdv A outer s H E I0 B0 hr
  exact (s_cons (s_setL (i := 1) nd_Town_text rfl (Or.inl rfl) (f_lst (a_cons (e_join e_str (e_lst (a_cons (e_globS rfl X.m_PLACES) (a_cons (e_callTy call_str_int (k_strI) rfl X.z_str bt_str (a_cons (e_fld ("size" : Str) (e_var 0) X.c_Town X.n_Town_size) a_nil)) a_nil)))) a_nil))) (s_cons (s_for (passes_of rfl) rfl (i_seq (e_fld ("links" : Str) (e_var 0) X.c_Town X.n_Town_links)) (g_name (i := 2) nd_Town_text rfl (by first | exact Or.inl rfl | exact Or.inr rfl)) (s_one (s_append (i := 1) (pv 1) (e_join e_str (e_op op_addA k_add (e_lst (a_cons (e_globS rfl X.m_BRIDGE) a_nil)) (e_lc rfl nd_Town_text (own := [(("number" : Str), 3)]) (by conv => lhs; whnf) (by conv => lhs; whnf) (by decide +kernel) (i_seq (e_var 2)) (fun _ _ _ _ _ => (gw_name (i := 3) nd_Town_text rfl (by first | exact Or.inl rfl | exact Or.inr rfl) (by decide))) (fun _ _ _ _ _ => ts_nil) (fun _ _ _ _ _ => (e_callTy call_str_int (k_strI) rfl X.z_str bt_str (a_cons (e_var 3) a_nil))))))))) (s_one (s_frz (i := 1) (s_ret (e_join e_str (e_var 1)))))))
/-! ### _law_bent -/
def q_law_6 (a : Ad) : CS := (sIf (CL.tOr (tNot (tB (cCall (g_law_alike a 5) (aCons (cProp a.C_Town (gNox (g_Town_text a)) (cVar 5)) (aCons (cVar 6) aNil))))) (tNot (tB (cCall (g_law_alike a 5) (aCons (cProp a.C_Town (gNox (g_Town_bridges a)) (cCmeth a.C_Town (g_Town_parse a) (cK (.ref a.C_Town)) (aCons (cVar 6) aNil))) (aCons (cVar 4) aNil)))))) (sRet (cK (.bl false))) sNil)
def q_law_bent_1 (a : Ad) : CS := (sSet 2 (cSm oSplit (cVar 1) (cK (.str ("\n" : Str)))))
def q_law_bent_2 (a : Ad) : CS := (sSet 3 (cCall (g_law_next a) (aCons (cVar 0) (aCons (cApp bLen (aCons (cVar 2) aNil)) aNil))))
def q_law_bent_3 (a : Ad) : CS := (sSet 4 (cSm oSplit (c2 oIx (cVar 2) (cVar 3)) (cK (.str (" " : Str)))))
def q_law_bent_4 (a : Ad) : CS := (sSet 5 (cCall (g_law_next a) (aCons (cVar 0) (aCons (cApp bLen (aCons (cVar 4) aNil)) aNil))))
def q_law_bent_5 (a : Ad) : CS := (sSet 6 (c2 oIx (cLst (aCons (cK (.str ("" : Str))) (aCons (cK (.str ("0" : Str))) (aCons (cK (.str ("01" : Str))) (aCons (cK (.str ("-1" : Str))) (aCons (cK (.str ("bridge" : Str))) (aCons (cK (.str ("places" : Str))) (aCons (cK (.str ("Bridge" : Str))) (aCons (cK (.str ("x" : Str))) (aCons (cK (.str ("99" : Str))) (aCons (cK (.str ("100" : Str))) (aCons (cK (.str ("13" : Str))) aNil)))))))))))) (cCall (g_law_next a) (aCons (cVar 0) (aCons (cK (.int 11)) aNil)))))
def q_law_bent_6 (a : Ad) : CS := (sSet 4 (c2 oIx (cLst (aCons (c2 oAdd (c2 oAdd (cCut (cVar 4) oNone (oSome (cVar 5))) (cLst (aCons (cVar 6) aNil))) (cCut (cVar 4) (oSome (c2 oAdd (cVar 5) (cK (.int 1)))) oNone)) (aCons (c2 oAdd (cCut (cVar 4) oNone (oSome (cVar 5))) (cCut (cVar 4) (oSome (c2 oAdd (cVar 5) (cK (.int 1)))) oNone)) (aCons (c2 oAdd (c2 oAdd (cCut (cVar 4) oNone (oSome (cVar 5))) (cLst (aCons (cVar 6) aNil))) (cCut (cVar 4) (oSome (cVar 5)) oNone)) aNil)))) (cCall (g_law_next a) (aCons (cVar 0) (aCons (cK (.int 3)) aNil)))))
def q_law_bent_7 (a : Ad) : CS := (sSet 7 (cSm oJoin (cK (.str (" " : Str))) (cVar 4)))
def q_law_bent_8 (a : Ad) : CS := (sSet 8 (cLst (aCons (c2 oAdd (c2 oAdd (cCut (cVar 2) oNone (oSome (cVar 3))) (cLst (aCons (cVar 7) aNil))) (cCut (cVar 2) (oSome (c2 oAdd (cVar 3) (cK (.int 1)))) oNone)) (aCons (c2 oAdd (cCut (cVar 2) oNone (oSome (cVar 3))) (cCut (cVar 2) (oSome (c2 oAdd (cVar 3) (cK (.int 1)))) oNone)) (aCons (c2 oAdd (c2 oAdd (cCut (cVar 2) oNone (oSome (cVar 3))) (c2 oMul (cCut (cVar 2) (oSome (cVar 3)) (oSome (c2 oAdd (cVar 3) (cK (.int 1))))) (cK (.int 2)))) (cCut (cVar 2) (oSome (c2 oAdd (cVar 3) (cK (.int 1)))) oNone)) aNil)))))
def q_law_bent_9 (a : Ad) : CS := (sRet (cSm oJoin (cK (.str ("\n" : Str))) (c2 oIx (cLst (aCons (c2 oIx (cVar 8) (cK (.int 0))) (aCons (c2 oIx (cVar 8) (cK (.int 0))) (aCons (c2 oIx (cVar 8) (cK (.int 1))) (aCons (c2 oIx (cVar 8) (cK (.int 2))) (aCons (c2 oAdd (cVar 2) (cLst (aCons (cK (.str ("" : Str))) aNil))) (aCons (c1 oRev (cVar 2)) aNil))))))) (cCall (g_law_next a) (aCons (cVar 0) (aCons (cK (.int 6)) aNil))))))
abbrev st_law_bent : Stmt := top 33
theorem nd_law_bent : ([("_law_h" : Str), ("_law_text_here" : Str), ("_law_lines" : Str), ("_law_k" : Str), ("_law_words" : Str), ("_law_j" : Str), ("_law_odd" : Str), ("_law_changed" : Str), ("_law_rows" : Str)] : List Str).Nodup := by decide +kernel
def c_law_bent (a : Ad) : CS := (sSeq (q_law_bent_1 a) (sSeq (q_law_bent_2 a) (sSeq (q_law_bent_3 a) (sSeq (q_law_bent_4 a) (sSeq (q_law_bent_5 a) (sSeq (q_law_bent_6 a) (sSeq (q_law_bent_7 a) (sSeq (q_law_bent_8 a) (q_law_bent_9 a)))))))))
def g_law_bent (a : Ad) : G := run 9 (c_law_bent a)
theorem ok_law_bent {P : Program} {w : World} {mg : Str → Option Value} {base : Heap} {L : Tl} {a : Ad} (X : Fx mg a) : FnC P w TheK.K mg base L 2 a.f_law_bent a.d_law_bent [("_law_h" : Str), ("_law_text_here" : Str)] (g_law_bent a) := by
  refine fn_d X.F_law_bent (N := [("_law_h" : Str), ("_law_text_here" : Str), ("_law_lines" : Str), ("_law_k" : Str), ("_law_words" : Str), ("_law_j" : Str), ("_law_odd" : Str), ("_law_changed" : Str), ("_law_rows" : Str)]) (c := c_law_bent a) (k := 1) (by conv => lhs; whnf) (by conv => lhs; whnf) ⟨rfl, rfl, rfl, nd_law_bent, rfl, by decide +kernel, by decide +kernel⟩ ?_
  intro cdv A outer s H E I0 B0 hr
  exact (s_cons (s_set (i := 2) nd_law_bent rfl (by first | exact Or.inl rfl | exact Or.inr rfl) (e_split (e_var 1) e_str)) (s_cons (s_set (i := 3) nd_law_bent rfl (by first | exact Or.inl rfl | exact Or.inr rfl) (e_call (ok_law_next X) (hr.mono (by decide)) rfl X.m_law_next X.F_law_next.kp X.b_law_next (takes_of rfl rfl rfl rfl) (a_cons (e_var 0) (a_cons (e_callB call_len (k_len rfl) rfl X.z_len bt_len (a_cons (e_var 2) a_nil)) a_nil)) (an1 (an1 an0)))) (s_cons (s_set (i := 4) nd_law_bent rfl (by first | exact Or.inl rfl | exact Or.inr rfl) (e_split (e_ix (e_var 2) (e_var 3)) e_str)) (s_cons (s_set (i := 5) nd_law_bent rfl (by first | exact Or.inl rfl | exact Or.inr rfl) (e_call (ok_law_next X) (hr.mono (by decide)) rfl X.m_law_next X.F_law_next.kp X.b_law_next (takes_of rfl rfl rfl rfl) (a_cons (e_var 0) (a_cons (e_callB call_len (k_len rfl) rfl X.z_len bt_len (a_cons (e_var 4) a_nil)) a_nil)) (an1 (an1 an0)))) (s_cons (s_set (i := 6) nd_law_bent rfl (by first | exact Or.inl rfl | exact Or.inr rfl) (e_ix (e_lst (a_cons e_str (a_cons e_str (a_cons e_str (a_cons e_str (a_cons e_str (a_cons e_str (a_cons e_str (a_cons e_str (a_cons e_str (a_cons e_str (a_cons e_str a_nil)))))))))))) (e_call (ok_law_next X) (hr.mono (by decide)) rfl X.m_law_next X.F_law_next.kp X.b_law_next (takes_of rfl rfl rfl rfl) (a_cons (e_var 0) (a_cons e_int a_nil)) (an1 (an1 an0))))) (s_cons (s_set (i := 4) nd_law_bent rfl (by first | exact Or.inl rfl | exact Or.inr rfl) (e_ix (e_lst (a_cons (e_op op_addA k_add (e_op op_addA k_add (e_cut (e_var 4) o_none (o_some (e_var 5))) (e_lst (a_cons (e_var 6) a_nil))) (e_cut (e_var 4) (o_some (e_op op_addA k_add (e_var 5) e_int)) o_none)) (a_cons (e_op op_addA k_add (e_cut (e_var 4) o_none (o_some (e_var 5))) (e_cut (e_var 4) (o_some (e_op op_addA k_add (e_var 5) e_int)) o_none)) (a_cons (e_op op_addA k_add (e_op op_addA k_add (e_cut (e_var 4) o_none (o_some (e_var 5))) (e_lst (a_cons (e_var 6) a_nil))) (e_cut (e_var 4) (o_some (e_var 5)) o_none)) a_nil)))) (e_call (ok_law_next X) (hr.mono (by decide)) rfl X.m_law_next X.F_law_next.kp X.b_law_next (takes_of rfl rfl rfl rfl) (a_cons (e_var 0) (a_cons e_int a_nil)) (an1 (an1 an0))))) (s_cons (s_set (i := 7) nd_law_bent rfl (by first | exact Or.inl rfl | exact Or.inr rfl) (e_join e_str (e_var 4))) (s_cons (s_set (i := 8) nd_law_bent rfl (by first | exact Or.inl rfl | exact Or.inr rfl) (e_lst (a_cons (e_op op_addA k_add (e_op op_addA k_add (e_cut (e_var 2) o_none (o_some (e_var 3))) (e_lst (a_cons (e_var 7) a_nil))) (e_cut (e_var 2) (o_some (e_op op_addA k_add (e_var 3) e_int)) o_none)) (a_cons (e_op op_addA k_add (e_cut (e_var 2) o_none (o_some (e_var 3))) (e_cut (e_var 2) (o_some (e_op op_addA k_add (e_var 3) e_int)) o_none)) (a_cons (e_op op_addA k_add (e_op op_addA k_add (e_cut (e_var 2) o_none (o_some (e_var 3))) (e_op op_mulA k_mul (e_cut (e_var 2) (o_some (e_var 3)) (o_some (e_op op_addA k_add (e_var 3) e_int))) e_int)) (e_cut (e_var 2) (o_some (e_op op_addA k_add (e_var 3) e_int)) o_none)) a_nil))))) (s_one (s_ret (e_join e_str (e_ix (e_lst (a_cons (e_ix (e_var 8) e_int) (a_cons (e_ix (e_var 8) e_int) (a_cons (e_ix (e_var 8) e_int) (a_cons (e_ix (e_var 8) e_int) (a_cons (e_op op_addA k_add (e_var 2) (e_lst (a_cons e_str a_nil))) (a_cons (e_rev (e_var 2)) a_nil))))))) (e_call (ok_law_next X) (hr.mono (by decide)) rfl X.m_law_next X.F_law_next.kp X.b_law_next (takes_of rfl rfl rfl rfl) (a_cons (e_var 0) (a_cons e_int a_nil)) (an1 (an1 an0)))))))))))))))
/-! ### _law_numbers -/
def q_law_9 (a : Ad) : CS := (sSet 6 (cCall (g_law_bent a) (aCons (cVar 1) (aCons (cVar 6) aNil))))
def q_law_8 (a : Ad) : CS := (sFor (CL.iRange1 (c2 oAdd (cK (.int 1)) (cCall (g_law_next a) (aCons (cVar 1) (aCons (cK (.int 2)) aNil))))) (gN 7) (q_law_9 a))
def q_law_read_1 (a : Ad) : CS := (sSet 1 (cLc (CL.iSeq (cSm oSplit (cVar 0) (cK (.str ("\n" : Str))))) (gN 12) tYesC (cSm oSplit (cVar 12) (cK (.str (" " : Str)))) [12]))
def q_law_numbers_2 (a : Ad) : CS := (sIf (CL.tOr (tB (c2 (oEq false) (cVar 1) (cK (.str ("" : Str))))) (CL.tOr (tB (c2 (oEq true) (cLc (iStrC (cVar 1)) (gN 2) (tNot (tB (cChain oLeS oLeS (cK (.str ("0" : Str))) (cVar 2) (cK (.str ("9" : Str)))))) (cVar 2) [2]) (cLst aNil))) (CL.tAnd (tB (c2 oGt (cApp bLen (aCons (cVar 1) aNil)) (cK (.int 1)))) (tB (c2 (oEq false) (c2 oIxS (cVar 1) (cK (.int 0))) (cK (.str ("0" : Str)))))))) (sRet (cK .non)) sNil)
def q_law_numbers_1 (a : Ad) : CS := (sFor (CL.iSeq (cVar 0)) (gN 1) (q_law_numbers_2 a))
def q_law_numbers_4 (a : Ad) : CS := (sRet (cLc (CL.iSeq (cVar 0)) (gN 1) tYesC (cApp bIntS (aCons (cVar 1) aNil)) [1]))
abbrev st_law_numbers : Stmt := top 31
theorem nd_law_numbers : ([("_law_words" : Str), ("_law_word" : Str), ("_law_c" : Str)] : List Str).Nodup := by decide +kernel
def c_law_numbers (a : Ad) : CS := (sSeq (q_law_numbers_1 a) (q_law_numbers_4 a))
def g_law_numbers (a : Ad) : G := run 3 (c_law_numbers a)
theorem ok_law_numbers {P : Program} {w : World} {mg : Str → Option Value} {base : Heap} {L : Tl} {a : Ad} (X : Fx mg a) : FnC P w TheK.K mg base L 1 a.f_law_numbers a.d_law_numbers [("_law_words" : Str)] (g_law_numbers a) := by
  refine fn_d X.F_law_numbers (N := [("_law_words" : Str), ("_law_word" : Str), ("_law_c" : Str)]) (c := c_law_numbers a) (k := 0) (by conv => lhs; whnf) (by conv => lhs; whnf) ⟨rfl, rfl, rfl, nd_law_numbers, rfl, by decide +kernel, by decide +kernel⟩ ?_
  intro cdv A outer s H E I0 B0 hr
  exact (s_cons (s_for (passes_of rfl) rfl (i_seq (e_var 0)) (g_name (i := 1) nd_law_numbers rfl (by first | exact Or.inl rfl | exact Or.inr rfl)) (s_one (s_if (t_w (w_or (t_cmp (op_eqD hr.units) k_eq (e_var 1) e_str rfl) (w_or (t_cmp (op_neD hr.units) k_ne (e_lc rfl nd_law_numbers (own := [(("_law_c" : Str), 2)]) (by conv => lhs; whnf) (by conv => lhs; whnf) (by decide +kernel) (i_str (e_var 1)) (fun _ _ _ _ _ => (gw_name (i := 2) nd_law_numbers rfl (by first | exact Or.inl rfl | exact Or.inr rfl) (by decide))) (fun _ _ _ _ _ => (ts_one (CL.t_not (t_chain op_le_str op_le_str k_leS k_leS e_str (e_var 2) e_str)))) (fun _ _ _ _ _ => (e_var 2))) (e_lst a_nil) rfl) (w_or1 (t_w (w_and (t_cmp op_gt k_gt (e_callB call_len (k_len rfl) rfl X.z_len bt_len (a_cons (e_var 1) a_nil)) e_int rfl) (w_and1 (t_cmp (op_eqD hr.units) k_eq (e_ixS (e_var 1) e_int) e_str rfl)))))))) (s_one (s_ret e_non)) s_nil))) (s_one (s_ret (e_lc rfl nd_law_numbers (own := [(("_law_word" : Str), 1)]) (by conv => lhs; whnf) (by conv => lhs; whnf) (by decide +kernel) (i_seq (e_var 0)) (fun _ _ _ _ _ => (gw_name (i := 1) nd_law_numbers rfl (by first | exact Or.inl rfl | exact Or.inr rfl) (by decide))) (fun _ _ _ _ _ => ts_nil) (fun _ _ _ _ _ => (e_callTy call_int_str k_intS rfl X.z_int bt_int (a_cons (e_var 1) a_nil)))))))
/-! ### _law_read -/
def q_law_read_2 (a : Ad) : CS := (sPar 2 3 (aCons (cCall (g_law_numbers a) (aCons (cCut (c2 oIx (cVar 1) (cK (.int 0))) (oSome (cK (.int 1))) oNone) aNil)) (aCons (cToP (cLst aNil)) aNil)))
def q_law_read_4 (a : Ad) : CS := (sRet (cTup (aCons (cK (.str ("text" : Str))) (aCons (cK (.int 0)) aNil))))
def q_law_read_3 (a : Ad) : CS := (sIf (CL.tOr (tB (c2 (oEq true) (c2 oIx (c2 oIx (cVar 1) (cK (.int 0))) (cK (.int 0))) (cK (.str ("places" : Str))))) (CL.tOr (tB (c2 xIsN (cVar 2) (cK .non))) (tB (c2 (oEq true) (cApp bLen (aCons (cVar 2) aNil)) (cK (.int 1)))))) (q_law_read_4 a) sNil)
def q_law_read_6 (a : Ad) : CS := (sSet 5 (cCall (g_law_numbers a) (aCons (cCut (c2 oIx (cVar 1) (cVar 4)) (oSome (cK (.int 1))) oNone) aNil)))
def q_law_read_8 (a : Ad) : CS := (sRet (cTup (aCons (cK (.str ("text" : Str))) (aCons (cVar 4) aNil))))
def q_law_read_7 (a : Ad) : CS := (sIf (CL.tOr (tB (c2 (oEq true) (c2 oIx (c2 oIx (cVar 1) (cVar 4)) (cK (.int 0))) (cK (.str ("bridge" : Str))))) (CL.tOr (tB (c2 xIsN (cVar 5) (cK .non))) (tB (c2 (oEq true) (cApp bLen (aCons (cVar 5) aNil)) (cK (.int 4)))))) (q_law_read_8 a) sNil)
def q_law_read_9 (a : Ad) : CS := (sExpr (cAppendP (cVar 3) (cApp bTuple (aCons (cVar 5) aNil))))
def b_law_read_5 (a : Ad) : CS := (sSeq (q_law_read_6 a) (sSeq (q_law_read_7 a) (q_law_read_9 a)))
def q_law_read_5 (a : Ad) : CS := (sFor (CL.iRange2 (cK (.int 1)) (cApp bLen (aCons (cVar 1) aNil))) (gN 4) (b_law_read_5 a))
def q_law_read_10 (a : Ad) : CS := (sSet 6 (c2 oIx (cVar 2) (cK (.int 0))))
def q_law_read_12 (a : Ad) : CS := (sRet (cTup (aCons (cK (.str ("town" : Str))) (aCons (cK (.str ("count" : Str))) (aCons (cK (.int 0)) aNil)))))
def q_law_read_11 (a : Ad) : CS := (sIf (tNot (tB (cChain oLe oLe (cK (.int 1)) (cVar 6) (cK (.int 12))))) (q_law_read_12 a) sNil)
def q_law_read_14 (a : Ad) : CS := (sAsg (c2 oIx (cVar 3) (cVar 4)) (CL.gTup 4 (gCons (gN 7) (gCons (gN 8) (gCons (gN 9) (gCons (gN 10) gNil))))))
def q_law_read_15 (a : Ad) : CS := (sSet 11 (cAnd (c2 oLt (cVar 7) (cVar 6)) (cAnd (c2 oLt (cVar 8) (cVar 6)) (cAnd (c2 (oEq true) (cVar 7) (cVar 8)) (cAnd (cChain oLe oLe (cK (.int 1)) (cVar 9) (cK (.int 99))) (c2 oLe (cVar 10) (c2 oPow (cK (.int 10)) (cK (.int 18)))))))))
def q_law_read_17 (a : Ad) : CS := (sRet (cTup (aCons (cK (.str ("town" : Str))) (aCons (cK (.str ("bridges" : Str))) (aCons (cVar 4) aNil)))))
def q_law_read_16 (a : Ad) : CS := (sIf (CL.tOr (tB (c2 (oEq false) (cVar 4) (cK (.int 24)))) (tNot (tB (cVar 11)))) (q_law_read_17 a) sNil)
def b_law_read_13 (a : Ad) : CS := (sSeq (q_law_read_14 a) (sSeq (q_law_read_15 a) (q_law_read_16 a)))
def q_law_read_13 (a : Ad) : CS := (sFor (CL.iRange1 (cApp bLen (aCons (cVar 3) aNil))) (gN 4) (b_law_read_13 a))
def q_law_read_18 (a : Ad) : CS := (sRet (cTup (aCons (cK (.str ("good" : Str))) (aCons (cVar 6) (aCons (cApp bTuple (aCons (cVar 3) aNil)) aNil)))))
abbrev st_law_read : Stmt := top 32
theorem nd_law_read : ([("_law_text_here" : Str), ("_law_lines" : Str), ("_law_counts" : Str), ("_law_links_here" : Str), ("_law_k" : Str), ("_law_numbers_here" : Str), ("_law_count" : Str), ("_law_one" : Str), ("_law_other" : Str), ("_law_length" : Str), ("_law_life_here" : Str), ("_law_good" : Str), ("_law_line" : Str)] : List Str).Nodup := by decide +kernel
def c_law_read (a : Ad) : CS := (sSeq (q_law_read_1 a) (sSeq (q_law_read_2 a) (sSeq (q_law_read_3 a) (sSeq (q_law_read_5 a) (sSeq (q_law_read_10 a) (sSeq (q_law_read_11 a) (sSeq (q_law_read_13 a) (q_law_read_18 a))))))))
def g_law_read (a : Ad) : G := run 13 (c_law_read a)
theorem ok_law_read {P : Program} {w : World} {mg : Str → Option Value} {base : Heap} {L : Tl} {a : Ad} (X : Fx mg a) : FnC P w TheK.K mg base L 3 a.f_law_read a.d_law_read [("_law_text_here" : Str)] (g_law_read a) := by
  refine fn_d X.F_law_read (N := [("_law_text_here" : Str), ("_law_lines" : Str), ("_law_counts" : Str), ("_law_links_here" : Str), ("_law_k" : Str), ("_law_numbers_here" : Str), ("_law_count" : Str), ("_law_one" : Str), ("_law_other" : Str), ("_law_length" : Str), ("_law_life_here" : Str), ("_law_good" : Str), ("_law_line" : Str)]) (c := c_law_read a) (k := 2) (by conv => lhs; whnf) (by conv => lhs; whnf) ⟨rfl, rfl, rfl, nd_law_read, rfl, by decide +kernel, by decide +kernel⟩ ?_
  intro cdv A outer s H E I0 B0 hr
  exact (s_cons (s_setLc rfl nd_law_read rfl rfl (sw_true rfl rfl rfl rfl) (own := [(("_law_line" : Str), 12)]) (by conv => lhs; whnf) (by conv => lhs; whnf) (by decide +kernel) (i_seq (e_split (e_var 0) e_str)) (fun _ _ _ _ _ => (gw_name (i := 12) nd_law_read rfl (by first | exact Or.inl rfl | exact Or.inr rfl) (by decide))) (fun _ _ _ _ _ => ts_nil) (fun _ _ _ _ _ => (e_split (e_var 12) e_str))) (s_cons (s_par (i := 2) (j := 3) rfl nd_law_read rfl rfl (by decide) rfl rfl (a_cons (e_call (ok_law_numbers X) (hr.mono (by decide)) rfl X.m_law_numbers X.F_law_numbers.kp X.b_law_numbers (takes_of rfl rfl rfl rfl) (a_cons (e_cut (e_ix (e_var 1) e_int) (o_some e_int) o_none) a_nil) (an1 an0)) (a_cons (e_toP (f_lst a_nil)) a_nil)) rfl) (s_cons (s_if (t_w (w_or (t_cmp (op_neD hr.units) k_ne (e_ix (e_ix (e_var 1) e_int) e_int) e_str rfl) (w_or (t_cmp op_isN k_isN (e_var 2) e_non rfl) (w_or1 (t_cmp (op_neD hr.units) k_ne (e_callB call_len (k_len rfl) rfl X.z_len bt_len (a_cons (e_var 2) a_nil)) e_int rfl))))) (s_one (s_ret (e_tup (a_cons e_str (a_cons e_int a_nil))))) s_nil) (s_cons (s_for (passes_of rfl) rfl (i_range2 rfl X.z_range e_int (e_callB call_len (k_len rfl) rfl X.z_len bt_len (a_cons (e_var 1) a_nil))) (g_name (i := 4) nd_law_read rfl (by first | exact Or.inl rfl | exact Or.inr rfl)) (s_cons (s_set (i := 5) nd_law_read rfl (by first | exact Or.inl rfl | exact Or.inr rfl) (e_call (ok_law_numbers X) (hr.mono (by decide)) rfl X.m_law_numbers X.F_law_numbers.kp X.b_law_numbers (takes_of rfl rfl rfl rfl) (a_cons (e_cut (e_ix (e_var 1) (e_var 4)) (o_some e_int) o_none) a_nil) (an1 an0))) (s_cons (s_if (t_w (w_or (t_cmp (op_neD hr.units) k_ne (e_ix (e_ix (e_var 1) (e_var 4)) e_int) e_str rfl) (w_or (t_cmp op_isN k_isN (e_var 5) e_non rfl) (w_or1 (t_cmp (op_neD hr.units) k_ne (e_callB call_len (k_len rfl) rfl X.z_len bt_len (a_cons (e_var 5) a_nil)) e_int rfl))))) (s_one (s_ret (e_tup (a_cons e_str (a_cons (e_var 4) a_nil))))) s_nil) (s_one (s_expr (e_appendP (e_var 3) (e_callTy call_tuple_of (k_tuple rfl) rfl X.z_tuple bt_tuple (a_cons (e_var 5) a_nil)))))))) (s_cons (s_set (i := 6) nd_law_read rfl (by first | exact Or.inl rfl | exact Or.inr rfl) (e_ix (e_var 2) e_int)) (s_cons (s_if (CL.t_not (t_chain op_le op_le k_le k_le e_int (e_var 6) e_int)) (s_one (s_ret (e_tup (a_cons e_str (a_cons e_str (a_cons e_int a_nil)))))) s_nil) (s_cons (s_for (passes_of rfl) rfl (i_range1 rfl X.z_range (e_callB call_len (k_len rfl) rfl X.z_len bt_len (a_cons (e_var 3) a_nil))) (g_name (i := 4) nd_law_read rfl (by first | exact Or.inl rfl | exact Or.inr rfl)) (s_cons (s_asg (e_ix (e_var 3) (e_var 4)) (g_tup rfl (g_cons (g_name (i := 7) nd_law_read rfl (by first | exact Or.inl rfl | exact Or.inr rfl)) (g_cons (g_name (i := 8) nd_law_read rfl (by first | exact Or.inl rfl | exact Or.inr rfl)) (g_cons (g_name (i := 9) nd_law_read rfl (by first | exact Or.inl rfl | exact Or.inr rfl)) (g_cons (g_name (i := 10) nd_law_read rfl (by first | exact Or.inl rfl | exact Or.inr rfl)) g_nil)))))) (s_cons (s_set (i := 11) nd_law_read rfl (by first | exact Or.inl rfl | exact Or.inr rfl) (e_and (e_cmp op_lt k_lt (e_var 7) (e_var 6) rfl) (e_and (e_cmp op_lt k_lt (e_var 8) (e_var 6) rfl) (e_and (e_cmp (op_neD hr.units) k_ne (e_var 7) (e_var 8) rfl) (e_and (e_chain op_le op_le k_le k_le e_int (e_var 9) e_int) (e_one (e_cmp op_le k_le (e_var 10) (e_op op_pow k_pow e_int e_int) rfl))))))) (s_one (s_if (t_w (w_or (t_cmp (op_eqD hr.units) k_eq (e_var 4) e_int rfl) (w_or1 (CL.t_not (t_val (e_var 11)))))) (s_one (s_ret (e_tup (a_cons e_str (a_cons e_str (a_cons (e_var 4) a_nil)))))) s_nil))))) (s_one (s_ret (e_tup (a_cons e_str (a_cons (e_var 6) (a_cons (e_callTy call_tuple_of (k_tuple rfl) rfl X.z_tuple bt_tuple (a_cons (e_var 3) a_nil)) a_nil)))))))))))))
/-! ### _law_error -/
def q_law_10 (a : Ad) : CS := (sAsg (cTup (aCons (cCall (g_law_read a) (aCons (cVar 6) aNil)) (aCons (cToP (cLst aNil)) aNil))) (CL.gTup 2 (gCons (gN 8) (gCons (gN 9) gNil))))
def q_law_error_4 (a : Ad) (ac : CE) : CS := (sSetL 2 (cLst (aCons (cIsE 1 (kit_InvalidTown a)) (aCons (cIsE 1 (kit_InvalidText a)) (aCons (cIsE 1 (kit_InvalidTrips a)) aNil)))))
def q_law_error_5 (a : Ad) (ac : CE) : CS := (sExtend 2 (cLst (aCons (cIsE 1 (kit_InvalidCount a)) (aCons (cIsE 1 (kit_InvalidLife a)) (aCons (cIsE 1 (kit_InvalidLoad a)) aNil)))))
def q_law_error_6 (a : Ad) (ac : CE) : CS := (sExtend 2 (cLst (aCons (cIsE 1 (kit_UnknownPlace a)) (aCons (cIsE 1 (kit_UnknownBridge a)) (aCons (cIsE 1 (kit_UnknownKind a)) aNil)))))
def q_law_error_7 (a : Ad) (ac : CE) : CS := (sExtend 2 (cLst (aCons (cIsE 1 (kit_TooManyBridges a)) (aCons (cIsE 1 (kit_DifferentTowns a)) (aCons (cIsE 1 (kit_Contradiction a)) aNil)))))
def q_law_error_9 (a : Ad) (ac : CE) : CS := (sRet (cTup (aCons (cK (.str ("other" : Str))) aNil)))
def q_law_error_8 (a : Ad) (ac : CE) : CS := (sFrz 2 (sIf (CL.tOr (tB (c2 (oEq true) (cLm oCount (cVar 2) (cK (.bl true))) (cK (.int 1)))) (tNot (tB (cIsE 1 (kit_ValueError a))))) (q_law_error_9 a ac) sNil))
def q_law_error_10 (a : Ad) (ac : CE) : CS := (sSet 3 (cLst (aCons (cK (.str ("town" : Str))) (aCons (cK (.str ("text" : Str))) (aCons (cK (.str ("trips" : Str))) (aCons (cK (.str ("count" : Str))) (aCons (cK (.str ("life" : Str))) (aCons (cK (.str ("load" : Str))) (aCons (cK (.str ("place" : Str))) (aCons (cK (.str ("bridge" : Str))) (aCons (cK (.str ("kind" : Str))) (aCons (cK (.str ("many" : Str))) (aCons (cK (.str ("sizes" : Str))) aNil)))))))))))))
def q_law_error_11 (a : Ad) (ac : CE) : CS := (sSet 4 (c2 oIx (c2 oAdd (cVar 3) (cLst (aCons (cK (.str ("contradiction" : Str))) aNil))) (cLm oIndex (cVar 2) (cK (.bl true)))))
def q_law_error_13 (a : Ad) (ac : CE) : CS := (sRet (cTup (aCons (cVar 4) (aCons (cXf a.C_InvalidTown ("part" : Str) 1) (aCons (cXf a.C_InvalidTown ("index" : Str) 1) aNil)))))
def q_law_error_12 (a : Ad) (ac : CE) : CS := (sIf (tB (c2 (oEq false) (cVar 4) (cK (.str ("town" : Str))))) (q_law_error_13 a ac) sNil)
def q_law_error_15 (a : Ad) (ac : CE) : CS := (sRet (cTup (aCons (cVar 4) (aCons (cXf a.C_InvalidText ("row" : Str) 1) aNil))))
def q_law_error_14 (a : Ad) (ac : CE) : CS := (sIf (tB (c2 (oEq false) (cVar 4) (cK (.str ("text" : Str))))) (q_law_error_15 a ac) sNil)
def q_law_error_16 (a : Ad) (ac : CE) : CS := (sRet (cIf (tB (c2 (oEq false) (cVar 4) (cK (.str ("trips" : Str))))) (cTup (aCons (cVar 4) (aCons (cXf a.C_InvalidTrips ("index" : Str) 1) aNil))) (cTup (aCons (cVar 4) aNil))))
def q_law_error_1 (a : Ad) (ac : CE) : CS := (sTryAs 1 (exm_BridgeError a) (sExpr ac) (sSeq (q_law_error_4 a ac) (sSeq (q_law_error_5 a ac) (sSeq (q_law_error_6 a ac) (sSeq (q_law_error_7 a ac) (sSeq (q_law_error_8 a ac) (sSeq (q_law_error_10 a ac) (sSeq (q_law_error_11 a ac) (sSeq (q_law_error_12 a ac) (sSeq (q_law_error_14 a ac) (q_law_error_16 a ac)))))))))))
def q_law_error_17 (a : Ad) (ac : CE) : CS := (sRet (cTup (aCons (cK (.str ("none" : Str))) aNil)))
abbrev st_law_error : Stmt := top 26
theorem nd_law_error : ([("_law_call" : Str), ("e" : Str), ("_law_kinds" : Str), ("_law_names" : Str), ("_law_name" : Str)] : List Str).Nodup := by decide +kernel
theorem sc_law_error : FnScope [("_law_call" : Str), ("e" : Str), ("_law_kinds" : Str), ("_law_names" : Str), ("_law_name" : Str)] [("_law_call" : Str)] (defScope st_law_error) := ⟨rfl, rfl, rfl, by decide +kernel, rfl, by decide +kernel, by decide +kernel⟩
def cb_law_error (a : Ad) (ac : CE) : CS := (sSeq (q_law_error_1 a ac) (q_law_error_17 a ac))
theorem body_law_error {P : Program} {w : World} {mg : Str → Option Value} {base : Heap} {a : Ad} (X : Fx mg a) {A : Around} {outer : List Env} {cdg : Value} {s : Shared} {H : Hp} {I0 : List Addr} {B0 : Hp} {L : Tl} {FF : Option (Addr × List Addr × Hp × Hp)} {ac : CE} {k : Nat} (hr : Room k (A.deeper (envOfC ("_law_error" : Str) (defScope st_law_error) s.heap.objs.size a.f_law_error cdg)))
    (hac : ∀ (W : WX) (pn : List (Addr × Obj)) (xe : Value → Shared → Prop) (p1 p2 : Pos), Takes ((cxOf C8.CX0 P w TheK.K mg base [("_law_call" : Str), ("e" : Str), ("_law_kinds" : Str), ("_law_names" : Str), ("_law_name" : Str)] ("_law_error" : Str) (defScope st_law_error) a.f_law_error cdg A outer s H C8.E0).tr pn xe) W → PE ((cxOf C8.CX0 P w TheK.K mg base [("_law_call" : Str), ("e" : Str), ("_law_kinds" : Str), ("_law_names" : Str), ("_law_name" : Str)] ("_law_error" : Str) (defScope st_law_error) a.f_law_error cdg A outer s H C8.E0).tr pn xe) (.Call (.Name ("_law_call" : Str) p1) [] [] p2) (rdE ⟨L, none, FF⟩ W ac)) :
    PSs (cxOf C8.CX0 P w TheK.K mg base [("_law_call" : Str), ("e" : Str), ("_law_kinds" : Str), ("_law_names" : Str), ("_law_name" : Str)] ("_law_error" : Str) (defScope st_law_error) a.f_law_error cdg A outer s H C8.E0).nox (defBody st_law_error) (rdS ⟨L, none, FF⟩ I0 B0 H wNo (cb_law_error a ac)) := by
  refine body_d (c := cb_law_error a ac) (by conv => lhs; whnf) (by conv => lhs; whnf) ?_ hr hac
  clear hac hr
  intro hr hac
  exact (s_cons (s_tryAs (i := 1) rfl rfl nd_law_error rfl rfl (c := .ref a.C_BridgeError) ⟨rfl, by decide, .inl X.m_BridgeError⟩ takes0 (exm_BridgeError_ok X) (fun W pn xe tk hp => (s_one (s_expr (hac _ _ _ _ _ tk)))) (fun b oe cls d pn hz hf => (s_cons (s_setL (i := 2) nd_law_error rfl (Or.inl rfl) (f_lst (a_cons (e_isE (i := 1) (cv := .ref a.C_InvalidTown) (v := .ref a.C_InvalidTown) hz hf rfl (Or.inl rfl) (pe_glob (v := .ref a.C_InvalidTown) (X := (_ : Cx).suite _ _) rfl X.m_InvalidTown rfl) (fun _ h => h) (kit_InvalidTown_ok X) rfl X.z_isinstance bt_isinstance) (a_cons (e_isE (i := 1) (cv := .ref a.C_InvalidText) (v := .ref a.C_InvalidText) hz hf rfl (Or.inl rfl) (pe_glob (v := .ref a.C_InvalidText) (X := (_ : Cx).suite _ _) rfl X.m_InvalidText rfl) (fun _ h => h) (kit_InvalidText_ok X) rfl X.z_isinstance bt_isinstance) (a_cons (e_isE (i := 1) (cv := .ref a.C_InvalidTrips) (v := .ref a.C_InvalidTrips) hz hf rfl (Or.inl rfl) (pe_glob (v := .ref a.C_InvalidTrips) (X := (_ : Cx).suite _ _) rfl X.m_InvalidTrips rfl) (fun _ h => h) (kit_InvalidTrips_ok X) rfl X.z_isinstance bt_isinstance) a_nil))))) (s_cons (s_extend (i := 2) (pv 2) (e_lst (a_cons (e_isE (i := 1) (cv := .ref a.C_InvalidCount) (v := .ref a.C_InvalidCount) hz hf rfl (Or.inl rfl) (pe_glob (v := .ref a.C_InvalidCount) (X := (_ : Cx).suite _ _) rfl X.m_InvalidCount rfl) (fun _ h => h) (kit_InvalidCount_ok X) rfl X.z_isinstance bt_isinstance) (a_cons (e_isE (i := 1) (cv := .ref a.C_InvalidLife) (v := .ref a.C_InvalidLife) hz hf rfl (Or.inl rfl) (pe_glob (v := .ref a.C_InvalidLife) (X := (_ : Cx).suite _ _) rfl X.m_InvalidLife rfl) (fun _ h => h) (kit_InvalidLife_ok X) rfl X.z_isinstance bt_isinstance) (a_cons (e_isE (i := 1) (cv := .ref a.C_InvalidLoad) (v := .ref a.C_InvalidLoad) hz hf rfl (Or.inl rfl) (pe_glob (v := .ref a.C_InvalidLoad) (X := (_ : Cx).suite _ _) rfl X.m_InvalidLoad rfl) (fun _ h => h) (kit_InvalidLoad_ok X) rfl X.z_isinstance bt_isinstance) a_nil))))) (s_cons (s_extend (i := 2) (pv 2) (e_lst (a_cons (e_isE (i := 1) (cv := .ref a.C_UnknownPlace) (v := .ref a.C_UnknownPlace) hz hf rfl (Or.inl rfl) (pe_glob (v := .ref a.C_UnknownPlace) (X := (_ : Cx).suite _ _) rfl X.m_UnknownPlace rfl) (fun _ h => h) (kit_UnknownPlace_ok X) rfl X.z_isinstance bt_isinstance) (a_cons (e_isE (i := 1) (cv := .ref a.C_UnknownBridge) (v := .ref a.C_UnknownBridge) hz hf rfl (Or.inl rfl) (pe_glob (v := .ref a.C_UnknownBridge) (X := (_ : Cx).suite _ _) rfl X.m_UnknownBridge rfl) (fun _ h => h) (kit_UnknownBridge_ok X) rfl X.z_isinstance bt_isinstance) (a_cons (e_isE (i := 1) (cv := .ref a.C_UnknownKind) (v := .ref a.C_UnknownKind) hz hf rfl (Or.inl rfl) (pe_glob (v := .ref a.C_UnknownKind) (X := (_ : Cx).suite _ _) rfl X.m_UnknownKind rfl) (fun _ h => h) (kit_UnknownKind_ok X) rfl X.z_isinstance bt_isinstance) a_nil))))) (s_cons (s_extend (i := 2) (pv 2) (e_lst (a_cons (e_isE (i := 1) (cv := .ref a.C_TooManyBridges) (v := .ref a.C_TooManyBridges) hz hf rfl (Or.inl rfl) (pe_glob (v := .ref a.C_TooManyBridges) (X := (_ : Cx).suite _ _) rfl X.m_TooManyBridges rfl) (fun _ h => h) (kit_TooManyBridges_ok X) rfl X.z_isinstance bt_isinstance) (a_cons (e_isE (i := 1) (cv := .ref a.C_DifferentTowns) (v := .ref a.C_DifferentTowns) hz hf rfl (Or.inl rfl) (pe_glob (v := .ref a.C_DifferentTowns) (X := (_ : Cx).suite _ _) rfl X.m_DifferentTowns rfl) (fun _ h => h) (kit_DifferentTowns_ok X) rfl X.z_isinstance bt_isinstance) (a_cons (e_isE (i := 1) (cv := .ref a.C_Contradiction) (v := .ref a.C_Contradiction) hz hf rfl (Or.inl rfl) (pe_glob (v := .ref a.C_Contradiction) (X := (_ : Cx).suite _ _) rfl X.m_Contradiction rfl) (fun _ h => h) (kit_Contradiction_ok X) rfl X.z_isinstance bt_isinstance) a_nil))))) (s_cons (s_frz (i := 2) (s_if (t_w (w_or (t_cmp (op_neD hr.units) k_ne (e_count (e_var 2) e_bl) e_int rfl) (w_or1 (CL.t_not (t_val (e_isE (i := 1) (cv := .type "ValueError") (v := .ty "ValueError") hz hf rfl (Or.inl rfl) (pe_bltn (v := .ty "ValueError") (X := (_ : Cx).suite _ _) rfl X.z_ValueError bt_ValueError rfl) (fun _ h => h) (kit_ValueError_ok X) rfl X.z_isinstance bt_isinstance)))))) (s_one (s_ret (e_tup (a_cons e_str a_nil)))) s_nil)) (s_cons (s_set (i := 3) nd_law_error rfl (by first | exact Or.inl rfl | exact Or.inr rfl) (e_lst (a_cons e_str (a_cons e_str (a_cons e_str (a_cons e_str (a_cons e_str (a_cons e_str (a_cons e_str (a_cons e_str (a_cons e_str (a_cons e_str (a_cons e_str a_nil))))))))))))) (s_cons (s_set (i := 4) nd_law_error rfl (by first | exact Or.inl rfl | exact Or.inr rfl) (e_ix (e_op op_addA k_add (e_var 3) (e_lst (a_cons e_str a_nil))) (e_index (e_var 2) e_bl))) (s_cons (s_if (t_cmp (op_eqD hr.units) k_eq (e_var 4) e_str rfl) (s_one (s_ret (e_tup (a_cons (e_var 4) (a_cons (e_xf (i := 1) hz hf rfl (Or.inl rfl) X.xf_InvalidTown X.n_InvalidTown_part) (a_cons (e_xf (i := 1) hz hf rfl (Or.inl rfl) X.xf_InvalidTown X.n_InvalidTown_index) a_nil)))))) s_nil) (s_cons (s_if (t_cmp (op_eqD hr.units) k_eq (e_var 4) e_str rfl) (s_one (s_ret (e_tup (a_cons (e_var 4) (a_cons (e_xf (i := 1) hz hf rfl (Or.inl rfl) X.xf_InvalidText X.n_InvalidText_row) a_nil))))) s_nil) (s_one (s_ret (e_if (t_cmp (op_eqD hr.units) k_eq (e_var 4) e_str rfl) (e_tup (a_cons (e_var 4) (a_cons (e_xf (i := 1) hz hf rfl (Or.inl rfl) X.xf_InvalidTrips X.n_InvalidTrips_index) a_nil))) (e_tup (a_cons (e_var 4) a_nil)))))))))))))))) (s_one (s_ret (e_tup (a_cons e_str a_nil)))))
/-! ### Town.place_count -/
def q_law_11 (a : Ad) : CS := (sSet 10 (cLam 5 (fun ac => cb_law_error a ac) (cAppendP (cVar 9) (cCmeth a.C_Town (g_Town_parse a) (cK (.ref a.C_Town)) (aCons (cVar 6) aNil)))))
def q_law_12 (a : Ad) : CS := (sIf (tB (c2 (oEq true) (cVar 10) (cIf (tB (c2 (oEq false) (c2 oIx (cVar 8) (cK (.int 0))) (cK (.str ("good" : Str))))) (cTup (aCons (cK (.str ("none" : Str))) aNil)) (cVar 8)))) (sRet (cK (.bl false))) sNil)
def q_Town_place_count_1 (a : Ad) : CS := (sRet (cFld a.C_Town ("size" : Str) (cVar 0)))
abbrev st_Town_place_count : Stmt := inClass (top 21) 6
theorem nd_Town_place_count : ([("self" : Str)] : List Str).Nodup := by decide +kernel
def c_Town_place_count (a : Ad) : CS := (q_Town_place_count_1 a)
def g_Town_place_count (a : Ad) : G := run 1 (c_Town_place_count a)
theorem ok_Town_place_count {P : Program} {w : World} {mg : Str → Option Value} {base : Heap} {L : Tl} {a : Ad} (X : Fx mg a) : FnC P w TheK.K mg base L 1 a.f_Town_place_count a.d_Town_place_count [("self" : Str)] (g_Town_place_count a) := by
  refine fn_d X.F_Town_place_count (N := [("self" : Str)]) (c := c_Town_place_count a) (k := 0) (by conv => lhs; whnf) (by conv => lhs; whnf) ⟨rfl, rfl, rfl, nd_Town_place_count, rfl, by decide +kernel, by decide +kernel⟩ ?_
  intro cdv A outer s H E I0 B0 hr
  exact (s_one (s_ret (e_fld ("size" : Str) (e_var 0) X.c_Town X.n_Town_size)))
/-! ### law -/
def q_law_14 (a : Ad) : CS := (sIf (CL.tAnd (tB (c2 (oEq false) (c2 oIx (cVar 8) (cK (.int 0))) (cK (.str ("good" : Str))))) (tNot (tB (cCall (g_law_alike a 5) (aCons (cLst (aCons (cProp a.C_Town (gNox (g_Town_place_count a)) (c2 oIx (cVar 9) (cK (.int 0)))) (aCons (cProp a.C_Town (gNox (g_Town_bridges a)) (c2 oIx (cVar 9) (cK (.int 0)))) aNil))) (aCons (cLst (aCons (c2 oIx (cVar 8) (cK (.int 1))) (aCons (c2 oIx (cVar 8) (cK (.int 2))) aNil))) aNil)))))) (sRet (cK (.bl false))) sNil)
def b_law_2 (a : Ad) : CS := (sSeq (q_law_3 a) (sSeq (q_law_4 a) (sSeq (q_law_5 a) (sSeq (q_law_6 a) (sSeq (q_law_8 a) (sSeq (q_law_10 a) (sSeq (q_law_11 a) (sSeq (q_law_12 a) (q_law_14 a)))))))))
def q_law_2 (a : Ad) : CS := (sFor (CL.iRange1 (cK (.int 6))) (gN 2) (b_law_2 a))
abbrev st_law : Stmt := top 34
theorem nd_law : ([("_law_script" : Str), ("_law_h" : Str), ("_law_turn" : Str), ("_law_count" : Str), ("_law_links_here" : Str), ("_law_town" : Str), ("_law_text_here" : Str), ("_law_change" : Str), ("_law_due" : Str), ("_law_results" : Str), ("_law_error_here" : Str)] : List Str).Nodup := by decide +kernel
def c_law (a : Ad) : CS := (sSeq (q_law_1 a) (sSeq (q_law_2 a) (sRet (cK (.bl true)))))
def g_law (a : Ad) : G := run 11 (c_law a)
theorem ok_law {P : Program} {w : World} {mg : Str → Option Value} {base : Heap} {L : Tl} {a : Ad} (X : Fx mg a) (TB : LamX.TabB base mg a.lc a.lP) (hcd : a.d_law.code = .ref a.lc) : FnC P w TheK.K mg base (tabsOf [(a.lP, lamQ)], []) 14 a.f_law a.d_law [("_law_script" : Str)] (g_law a) := by
  refine fn_dd X.F_law (N := [("_law_script" : Str), ("_law_h" : Str), ("_law_turn" : Str), ("_law_count" : Str), ("_law_links_here" : Str), ("_law_town" : Str), ("_law_text_here" : Str), ("_law_change" : Str), ("_law_due" : Str), ("_law_results" : Str), ("_law_error_here" : Str)]) (c := c_law a) (k := 13) (by conv => lhs; whnf) (by conv => lhs; whnf) ⟨rfl, rfl, rfl, nd_law, rfl, by decide +kernel, by decide +kernel⟩ hcd ?_
  intro A outer s H E I0 B0 hr
  exact (s_cons (s_set (i := 1) nd_law rfl (by first | exact Or.inl rfl | exact Or.inr rfl) (e_call (ok_law_mix X) (hr.mono (by decide)) rfl X.m_law_mix X.F_law_mix.kp X.b_law_mix (takes_of rfl rfl rfl rfl) (a_cons (e_var 0) (a_cons e_int a_nil)) (an1 (an1 an0)))) (s_cons (s_for (passes_of rfl) rfl (i_range1 rfl X.z_range e_int) (g_name (i := 2) nd_law rfl (by first | exact Or.inl rfl | exact Or.inr rfl)) (s_cons (s_set (i := 3) nd_law rfl (by first | exact Or.inl rfl | exact Or.inr rfl) (e_op op_addA k_add e_int (e_call (ok_law_next X) (hr.mono (by decide)) rfl X.m_law_next X.F_law_next.kp X.b_law_next (takes_of rfl rfl rfl rfl) (a_cons (e_var 1) (a_cons e_int a_nil)) (an1 (an1 an0))))) (s_cons (s_set (i := 4) nd_law rfl (by first | exact Or.inl rfl | exact Or.inr rfl) (e_call (ok_law_links X) (hr.mono (by decide)) rfl X.m_law_links X.F_law_links.kp X.b_law_links (takes_of rfl rfl rfl rfl) (a_cons (e_var 1) (a_cons (e_var 3) (a_cons e_int (a_cons e_bl a_nil)))) (an1 (an1 (an1 (an1 an0)))))) (s_cons (s_asg (e_tup (a_cons (e_make X.k_Town (ok_Town__init X) (hr.mono (by decide)) rfl X.m_Town X.b_Town__init (passes_call (takes_of rfl rfl rfl rfl) fun _ _ _ _ h => h) (a_cons (e_var 3) (a_cons (e_var 4) a_nil)) (an1 (an1 an0)) rfl) (a_cons (e_call (ok_law_text X) (hr.mono (by decide)) rfl X.m_law_text X.F_law_text.kp X.b_law_text (takes_of rfl rfl rfl rfl) (a_cons (e_var 3) (a_cons (e_var 4) a_nil)) (an1 (an1 an0))) a_nil))) (g_tup rfl (g_cons (g_name (i := 5) nd_law rfl (by first | exact Or.inl rfl | exact Or.inr rfl)) (g_cons (g_name (i := 6) nd_law rfl (by first | exact Or.inl rfl | exact Or.inr rfl)) g_nil)))) (s_cons (s_if (t_w (w_or (CL.t_not (t_val (e_call (ok_law_alike 5 X) (hr.mono (by decide)) rfl X.m_law_alike X.F_law_alike.kp X.b_law_alike (takes_of rfl rfl rfl rfl) (a_cons (e_prop (e_var 5) X.c_Town X.p_Town_text (ok_Town_text X) (hr.mono (by decide)) X.b_Town_text rfl) (a_cons (e_var 6) a_nil)) (an1 (an1 an0))))) (w_or1 (CL.t_not (t_val (e_call (ok_law_alike 5 X) (hr.mono (by decide)) rfl X.m_law_alike X.F_law_alike.kp X.b_law_alike (takes_of rfl rfl rfl rfl) (a_cons (e_prop (e_cmeth (e_glob rfl X.m_Town) X.r_Town X.y_Town_parse (ok_Town_parse X) (hr.mono (by decide)) X.b_Town_parse (passes_call (takes_of rfl rfl rfl rfl) fun _ _ _ _ h => h) (a_cons (e_var 6) a_nil) (an1 an0) rfl) X.c_Town X.p_Town_bridges (ok_Town_bridges X) (hr.mono (by decide)) X.b_Town_bridges rfl) (a_cons (e_var 4) a_nil)) (an1 (an1 an0)))))))) (s_one (s_ret e_bl)) s_nil) (s_cons (s_for (passes_of rfl) rfl (i_range1 rfl X.z_range (e_op op_addA k_add e_int (e_call (ok_law_next X) (hr.mono (by decide)) rfl X.m_law_next X.F_law_next.kp X.b_law_next (takes_of rfl rfl rfl rfl) (a_cons (e_var 1) (a_cons e_int a_nil)) (an1 (an1 an0))))) (g_name (i := 7) nd_law rfl (by first | exact Or.inl rfl | exact Or.inr rfl)) (s_one (s_set (i := 6) nd_law rfl (by first | exact Or.inl rfl | exact Or.inr rfl) (e_call (ok_law_bent X) (hr.mono (by decide)) rfl X.m_law_bent X.F_law_bent.kp X.b_law_bent (takes_of rfl rfl rfl rfl) (a_cons (e_var 1) (a_cons (e_var 6) a_nil)) (an1 (an1 an0)))))) (s_cons (s_asg (e_tup (a_cons (e_call (ok_law_read X) (hr.mono (by decide)) rfl X.m_law_read X.F_law_read.kp X.b_law_read (takes_of rfl rfl rfl rfl) (a_cons (e_var 6) a_nil) (an1 an0)) (a_cons (e_toP (f_lst a_nil)) a_nil))) (g_tup rfl (g_cons (g_name (i := 8) nd_law rfl (by first | exact Or.inl rfl | exact Or.inr rfl)) (g_cons (g_name (i := 9) nd_law rfl (by first | exact Or.inl rfl | exact Or.inr rfl)) g_nil)))) (s_cons (s_set (i := 10) nd_law rfl (by first | exact Or.inl rfl | exact Or.inr rfl) (e_lam (k := 9) X.F_law_error sc_law_error rfl (Or.inl rfl) X.b_law_error rfl X.m_law_error (fun cdg s H I0 B0 L FF ac hr hac => body_law_error X hr hac) TB rfl (List.mem_singleton.mpr rfl) (fun p hp _ => by have e := List.mem_singleton.mp hp; subst e; rfl) (hr.mono (by decide)) (lamS_d (by conv => lhs; whnf) (by decide +kernel)) rfl (fun _ _ _ _ _ => rfl) (fun A outer s H E f c' hr => (e_appendP (e_var 9) (e_cmeth (e_glob rfl X.m_Town) X.r_Town X.y_Town_parse (ok_Town_parse X) (hr.mono (by decide)) X.b_Town_parse (passes_call (takes_of rfl rfl rfl rfl) fun _ _ _ _ h => h) (a_cons (e_var 6) a_nil) (an1 an0) rfl))))) (s_cons (s_if (t_cmp (op_neD hr.units) k_ne (e_var 10) (e_if (t_cmp (op_eqD hr.units) k_eq (e_ix (e_var 8) e_int) e_str rfl) (e_tup (a_cons e_str a_nil)) (e_var 8)) rfl) (s_one (s_ret e_bl)) s_nil) (s_one (s_if (t_w (w_and (t_cmp (op_eqD hr.units) k_eq (e_ix (e_var 8) e_int) e_str rfl) (w_and1 (CL.t_not (t_val (e_call (ok_law_alike 5 X) (hr.mono (by decide)) rfl X.m_law_alike X.F_law_alike.kp X.b_law_alike (takes_of rfl rfl rfl rfl) (a_cons (e_lst (a_cons (e_prop (e_ix (e_var 9) e_int) X.c_Town X.p_Town_place_count (ok_Town_place_count X) (hr.mono (by decide)) X.b_Town_place_count rfl) (a_cons (e_prop (e_ix (e_var 9) e_int) X.c_Town X.p_Town_bridges (ok_Town_bridges X) (hr.mono (by decide)) X.b_Town_bridges rfl) a_nil))) (a_cons (e_lst (a_cons (e_ix (e_var 8) e_int) (a_cons (e_ix (e_var 8) e_int) a_nil))) a_nil)) (an1 (an1 an0)))))))) (s_one (s_ret e_bl)) s_nil))))))))))) (s_one (s_ret e_bl))))
end Law
set_option Elab.async false
set_option linter.all false
set_option maxRecDepth 100000
set_option maxHeartbeats 4000000
namespace Law
open PySem PySem.Spec PyProof.Rows L2 CL
variable [TheK]
theorem canInt (i : Int) : SeqAt.shaped (.int i) = true := by rfl
theorem canBool (b : Bool) : SeqAt.shaped (.bool b) = true := by rfl
@[simp] theorem oEq_int (neg : Bool) (i j : Int) (S : Store) : oEq neg (.int i) (.int j) S = .ok (.bl (if neg then !decide (i = j) else decide (i = j))) S := by
  simp [oEq, look, toPy, canInt, PyData.eqv]
  cases neg <;> simp [BEq.beq]
@[simp] theorem oEq_bl (neg : Bool) (i j : Bool) (S : Store) : oEq neg (.bl i) (.bl j) S = .ok (.bl (if neg then !(i == j) else i == j)) S := by
  simp [oEq, look, toPy, canBool, PyData.eqv]
@[simp] theorem atI0 {α : Type} (x : α) (xs : List α) : L2.atI (x :: xs) 0 = some x := L2.atI_nat (j := 0) rfl
@[simp] theorem atI1 {α : Type} (x y : α) (xs : List α) : L2.atI (x :: y :: xs) 1 = some y := L2.atI_nat (j := 1) rfl
@[simp] theorem atI2 {α : Type} (x y z : α) (xs : List α) : L2.atI (x :: y :: z :: xs) 2 = some z := L2.atI_nat (j := 2) rfl
@[simp] theorem atI3 {α : Type} (x y z w : α) (xs : List α) : L2.atI (x :: y :: z :: w :: xs) 3 = some w := L2.atI_nat (j := 3) rfl
@[simp] theorem ixN30 : L2.ixN 3 0 = some 0 := by rfl
@[simp] theorem ixN32 : L2.ixN 3 2 = some 2 := by rfl
theorem ixNat {n j : Nat} (hj : j < n) : L2.ixN n (j : Int) = some j := by
  unfold L2.ixN
  rw [if_pos (by omega), if_pos (by omega)]; simp
theorem lg7 : Nat.log2 7 = 2 := by decide +kernel
theorem pow18 : (10 : Int) ^ 18 = 1000000000000000000 := by decide
/-- what the calls of _law_next do -/
theorem next_ok (a : Ad) (m t : Int) (cs : List Int) (rest : Store) (lim : Int) (hl : cs.length ≤ 63) (h0 : 0 < lim) (h1 : lim.natAbs.log2 < 9000) :
    ∃ (r m' t' : Int) (cs' : List Int), g_law_next a [.ptr 1, .int lim] (.lst (cs.map D.int) :: .lst [.int m, .ptr 0, .int t] :: rest) = .ok (.int r) (.lst (cs'.map D.int) :: .lst [.int m', .ptr 0, .int t'] :: rest) ∧ 0 ≤ r ∧ r < lim ∧ cs'.length = cs.length := by
  have hl2 : cs.length + 1 ≤ 16777216 := by omega
  have hl3 : cs.length ≤ 16777215 := by omega
  -- the cell
  have cell : ∃ (c : Int) (k : Nat), t % (if 1 < (cs.length : Int) then (cs.length : Int) else 1) = (k : Int) ∧ L2.atI (cs.map D.int ++ [D.int 0]) (k : Int) = some (.int c) ∧ (k < cs.length ∨ c = 0) ∧ (0 < cs.length → t % (cs.length : Int) = (k : Int)) := by
    by_cases hp : 0 < cs.length
    · have e : (if 1 < (cs.length : Int) then (cs.length : Int) else 1) = (cs.length : Int) := by split <;> omega
      have e1 : 0 ≤ t % (cs.length : Int) := Int.emod_nonneg _ (by omega)
      have e2 : t % (cs.length : Int) < cs.length := Int.emod_lt_of_pos _ (by omega)
      have hk : (t % (cs.length : Int)).toNat < cs.length := by omega
      refine ⟨cs[(t % (cs.length : Int)).toNat], (t % (cs.length : Int)).toNat, by rw [e]; omega, L2.atI_nat ?_, .inl hk, fun _ => by omega⟩
      rw [List.getElem?_append_left (by simpa using hk)]
      simp [hk]
    · have e : cs = [] := by
        cases cs with
        | nil => rfl
        | cons _ _ => simp at hp
      subst e
      exact ⟨0, 0, by simp, rfl, .inr rfl, fun h => absurd h (by simp)⟩
  obtain ⟨c, k, e1, e2, e3, e4⟩ := cell
  have mx : (1 : Int) ≤ (if 1 < (cs.length : Int) then (cs.length : Int) else 1) := by split <;> omega
  have mx' : (0 : Int) < (if 1 < (cs.length : Int) then (cs.length : Int) else 1) := by omega
  by_cases hb : 1000000000000000000 ≤ c
  · have hk : k < cs.length := e3.resolve_right (by omega)
    have hp : (0 : Int) < cs.length := by omega
    have e5 := e4 (by omega)
    have hp' : 0 < cs.length := by omega
    have e6 : L2.ixN cs.length (k : Int) = some k := ixNat hk
    refine ⟨c % lim, m, t, cs.set k (c / lim), ?_, Int.emod_nonneg _ (by omega), Int.emod_lt_of_pos _ h0, by simp⟩
    simp [g_law_next, CL.run, c_law_next, q_law_next_1, q_law_next_2, q_law_next_3, q_law_next_4, q_law_next_5, q_law_next_6, q_law_next_7, oIx, itemsOf, oAdd, bInt, bMax2, bLen, oMod, oGe, oCmp, oPow, oDiv, oMul, smallI, hl2, hl3, e1, e2, mx', hb, pow18, h0, h1, hp, hp', e5, e6]
  · refine ⟨(m * 48271 + c * 69621 + 11) % 2147483647 / 7 % lim, (m * 48271 + c * 69621 + 11) % 2147483647, t + 1, cs, ?_, Int.emod_nonneg _ (by omega), Int.emod_lt_of_pos _ h0, rfl⟩
    simp [g_law_next, CL.run, c_law_next, q_law_next_1, q_law_next_2, q_law_next_3, q_law_next_4, q_law_next_5, q_law_next_6, q_law_next_7, oIx, itemsOf, oAdd, bInt, bMax2, bLen, oMod, oGe, oCmp, oPow, oDiv, oMul, smallI, hl2, hl3, e1, e2, mx', hb, pow18, h0, h1, lg7]

end Law
set_option Elab.async false
set_option linter.all false
set_option maxRecDepth 100000
set_option maxHeartbeats 4000000
namespace Law
open PySem CL
variable [TheK]
@[simp] theorem iteA (p : Prop) [Decidable p] (b : Bool) (S : Store) : (if p then R.ok (D.bl b) S else R.ok (D.bl false) S) = R.ok (D.bl (decide p && b)) S := by by_cases h : p <;> simp [h]
@[simp] theorem iteB (p : Prop) [Decidable p] (b : Bool) (S : Store) : (if p then R.ok true S else R.ok b S) = R.ok (decide p || b) S := by by_cases h : p <;> simp [h]
@[simp] theorem iteC (p : Prop) [Decidable p] (b : Bool) (S : Store) : (if p then R.ok b S else R.ok false S) = R.ok (decide p && b) S := by by_cases h : p <;> simp [h]
@[simp] theorem iteD (p : Prop) [Decidable p] (b : Bool) (S : Store) : (if p then O.rt (D.bl false) S else O.rt (D.bl b) S) = O.rt (D.bl (!decide p && b)) S := by by_cases h : p <;> simp [h]
structure Quad where
  q1 : Int
  q2 : Int
  q3 : Int
  q4 : Int
def qd (q : Quad) : D := .tup [.int q.q1, .int q.q2, .int q.q3, .int q.q4]
def isL (c : Int) (q : Quad) : Bool := decide (0 ≤ q.q1) && decide (q.q1 < c) && (decide (0 ≤ q.q2) && decide (q.q2 < c)) && !decide (q.q1 = q.q2) && (decide (1 ≤ q.q3) && decide (q.q3 ≤ 99) && (decide (0 ≤ q.q4) && decide (q.q4 ≤ 1000000000000000000)))
theorem isL_iff (c q1 q2 q3 q4 : Int) : isL c ⟨q1, q2, q3, q4⟩ = true ↔ ((0 ≤ q1 ∧ q1 < c) ∧ (0 ≤ q2 ∧ q2 < c) ∧ q1 ≠ q2) ∧ (1 ≤ q3 ∧ q3 ≤ 99) ∧ 0 ≤ q4 ∧ q4 ≤ 1000000000000000000 := by
  unfold isL
  simp
  omega
def tq (qs : List Quad) : D := .tup (qs.map qd)
/-- the store: the state of the numbers, then the rest -/
def Nx (rest S : Store) : Prop := ∃ (m t : Int) (cs : List Int), cs.length ≤ 63 ∧ S = .lst (cs.map D.int) :: .lst [.int m, .ptr 0, .int t] :: rest
theorem next_nx (a : Ad) {rest S : Store} (h : Nx rest S) (lim : Int) (h0 : 0 < lim) (h1 : lim.natAbs.log2 < 9000) : ∃ (r : Int) (S' : Store), g_law_next a [.ptr 1, .int lim] S = .ok (.int r) S' ∧ 0 ≤ r ∧ r < lim ∧ Nx rest S' := by
  obtain ⟨m, t, cs, hl, rfl⟩ := h
  obtain ⟨r, m', t', cs', e, h2, h3, h4⟩ := next_ok a m t cs rest lim hl h0 h1
  exact ⟨r, _, e, h2, h3, m', t', cs', by omega, rfl⟩
theorem pow6 : (10 : Int) ^ 6 = 1000000 := by decide
theorem lgs : (4 : Int).natAbs.log2 < 9000 ∧ (9 : Int).natAbs.log2 < 9000 ∧ (40 : Int).natAbs.log2 < 9000 ∧ (1000000 : Int).natAbs.log2 < 9000 ∧ (1000000000000000001 : Int).natAbs.log2 < 9000 := by decide +kernel
theorem lg_small {i : Int} (h : i.natAbs ≤ 1000) : i.natAbs.log2 < 9000 := by
  by_cases h0 : i.natAbs = 0
  · rw [h0]; decide +kernel
  · have : i.natAbs < 2 ^ 9000 := Nat.lt_of_le_of_lt h (by decide +kernel)
    exact (Nat.log2_lt h0).mpr this

theorem lg_le {i : Int} (h : i.natAbs ≤ 1000000000000000000000) : i.natAbs.log2 < 9000 := by
  by_cases h0 : i.natAbs = 0
  · rw [h0]; decide +kernel
  · have : i.natAbs < 2 ^ 9000 := Nat.lt_of_le_of_lt h (by decide +kernel)
    exact (Nat.log2_lt h0).mpr this
theorem life_ok (a : Ad) {rest S : Store} (h : Nx rest S) (wide : Bool) : ∃ (r : Int) (S' : Store), g_law_life a [.ptr 1, .bl wide] S = .ok (.int r) S' ∧ 0 ≤ r ∧ r ≤ 1000000000000000000 ∧ (wide = false → r < 40) ∧ Nx rest S' := by
  obtain ⟨r, S1, e1, h1, h2, h3⟩ := next_nx a h (if wide then 4 else 2) (by cases wide <;> decide) (by cases wide <;> exact lg_small (by decide))
  have pick : ∃ lim : Int, L2.atI [D.int 9, D.int 40, D.int 1000000, D.int 1000000000000000001] r = some (.int lim) ∧ 0 < lim ∧ lim ≤ 1000000000000000001 ∧ (wide = false → lim ≤ 40) := by
    have : r = 0 ∨ r = 1 ∨ r = 2 ∨ r = 3 := by cases wide <;> simp at h2 <;> omega
    rcases this with rfl | rfl | rfl | rfl
    · exact ⟨9, by simp, by decide, by decide, fun _ => by decide⟩
    · exact ⟨40, by simp, by decide, by decide, fun _ => by decide⟩
    · exact ⟨1000000, by simp, by decide, by decide, fun q => by subst q; simp at h2⟩
    · exact ⟨1000000000000000001, by simp, by decide, by decide, fun q => by subst q; simp at h2⟩
  obtain ⟨lim, p1, p2, p3, p4⟩ := pick
  obtain ⟨r2, S2, e2, h6, h7, h5⟩ := next_nx a h3 lim p2 (lg_le (by omega))
  refine ⟨r2, S2, ?_, h6, by omega, fun q => by have := p4 q; omega, h5⟩
  refine run_rt ?_
  cases wide <;> simp at e1 <;> simp [c_law_life, q_law_life_1, oPow, oAdd, pow6, pow18, e1, oIx, itemsOf, p1, e2]
theorem mix_ok (a : Ad) (ns : List Int) (hl : ns.length ≤ 63) (k : Int) : ∃ m : Int, g_law_mix a [.scr ns, .int k] [] = .ok (.ptr 1) [.lst (ns.map D.int), .lst [.int m, .ptr 0, .int 0]] := by
  have lp : ∀ (xs : List Int) (m : Int) (v : SV), ∃ (m' : Int) (v' : SV), loop (gN 3) (q_law_mix_3 a) (xs.map D.int) [.d (.scr ns), .d (.int k), .d (.int m), v] [] = .nx [.d (.scr ns), .d (.int k), .d (.int m'), v'] [] := by
    intro xs
    induction xs with
    | nil => exact fun m v => ⟨m, v, rfl⟩
    | cons x xs ih =>
      intro m v
      obtain ⟨m', v', h⟩ := ih ((m * 48271 + x % 2147483629 + 1) % 2147483647) (.d (.int x))
      refine ⟨m', v', ?_⟩
      rw [List.map_cons, loop_cons (z1 := [.d (.scr ns), .d (.int k), .d (.int m), .d (.int x)]) (z2 := [.d (.scr ns), .d (.int k), .d (.int ((m * 48271 + x % 2147483629 + 1) % 2147483647)), .d (.int x)]) (S2 := []) rfl]
      · exact h
      · simp [q_law_mix_3, oMod, oAdd, oMul, smallI]
  obtain ⟨m', v', h⟩ := lp ns k .u
  refine ⟨m', ?_⟩
  have hl' : ns.length ≤ 16777216 := by omega
  refine run_rt ?_
  simp [c_law_mix, q_law_mix_2, h, q_law_mix_4, bList, itemsOf]
end Law
set_option Elab.async false
set_option linter.all false
set_option maxRecDepth 100000
set_option maxHeartbeats 4000000
namespace Law
open PySem CL
variable [TheK]
/-! the links of a town, drawn -/
theorem links_turn (a : Ad) {rest S : Store} (h : Nx rest S) (c : Int) (hc : 1 < c) (hc2 : c ≤ 12) (wide : Bool) (acc : List Quad) (ha : acc.length < 1000) (v2 v5 v6 v7 : SV) :
    ∃ (q : Quad) (S' : Store) (w6 w7 : SV), b_law_links_2 a [.d (.ptr 1), .d (.int c), v2, .d (.bl wide), .l (acc.map qd), v5, v6, v7] S = .nx [.d (.ptr 1), .d (.int c), v2, .d (.bl wide), .l ((acc ++ [q]).map qd), v5, w6, w7] S' ∧ Nx rest S' ∧ isL c q = true ∧ (wide = false → q.q4 < 40) := by
  have l3 : Nat.log2 3 < 9000 := by decide +kernel
  obtain ⟨r1, S1, e1, a1, b1, n1⟩ := next_nx a h c (by omega) (lg_small (by omega))
  obtain ⟨r2, S2, e2, a2, b2, n2⟩ := next_nx a n1 (c - 1) (by omega) (lg_small (by omega))
  obtain ⟨r3, S3, e3, a3, b3, n3⟩ := next_nx a n2 4 (by decide) (lg_small (by decide))
  have pick : ∃ lim : Int, L2.atI [D.int 3, D.int 99] (r3 / 3) = some (.int lim) ∧ 0 < lim ∧ lim ≤ 99 := by
    have : r3 / 3 = 0 ∨ r3 / 3 = 1 := by omega
    rcases this with e | e
    · exact ⟨3, by rw [e]; simp, by decide, by decide⟩
    · exact ⟨99, by rw [e]; simp, by decide, by decide⟩
  obtain ⟨lim, p1, p2, p3⟩ := pick
  obtain ⟨r4, S4, e4, a4, b4, n4⟩ := next_nx a n3 lim p2 (lg_small (by omega))
  obtain ⟨r5, S5, e5, a5, b5, d5, n5⟩ := life_ok a n4 wide
  have hc0 : 0 < c := by omega
  have ha2 : acc.length < 16777216 := by omega
  refine ⟨⟨r1, (r1 + 1 + r2) % c, 1 + r4, r5⟩, S5, .d (.int r1), .d (.int ((r1 + 1 + r2) % c)), ?_, n5, ?_, d5⟩
  · simp [b_law_links_2, q_law_links_3, q_law_links_4, q_law_links_5, e1, e2, e3, e4, e5, oMod, oAdd, oSub, hc0, oIx, itemsOf, oDiv, l3, p1, ha2, qd]
  · rw [isL_iff]
    have m1 := Int.emod_nonneg (r1 + 1 + r2) (show c ≠ 0 by omega)
    have m2 := Int.emod_lt_of_pos (r1 + 1 + r2) hc0
    have ne : r1 ≠ (r1 + 1 + r2) % c := by
      rcases Int.lt_or_le (r1 + 1 + r2) c with q | q
      · rw [Int.emod_eq_of_lt (by omega) q]; omega
      · have e : (r1 + 1 + r2) % c = r1 + 1 + r2 - c := by
          rw [← Int.sub_emod_right, Int.emod_eq_of_lt (by omega) (by omega)]
        rw [e]; omega
    exact ⟨⟨⟨a1, b1⟩, ⟨m1, m2⟩, ne⟩, ⟨by omega, by omega⟩, a5, b5⟩
theorem links_loop (a : Ad) {rest : Store} (c : Int) (hc : 1 < c) (hc2 : c ≤ 12) (wide : Bool) (v2 : SV) : ∀ (ks : List D) (S : Store) (acc : List Quad) (v5 v6 v7 : SV), Nx rest S → acc.length + ks.length ≤ 1000 → (∀ q ∈ acc, isL c q = true ∧ (wide = false → q.q4 < 40)) →
    ∃ (qs : List Quad) (S' : Store) (w5 w6 w7 : SV), loop (gN 5) (b_law_links_2 a) ks [.d (.ptr 1), .d (.int c), v2, .d (.bl wide), .l (acc.map qd), v5, v6, v7] S = .nx [.d (.ptr 1), .d (.int c), v2, .d (.bl wide), .l (qs.map qd), w5, w6, w7] S' ∧ Nx rest S' ∧ qs.length = acc.length + ks.length ∧ ∀ q ∈ qs, isL c q = true ∧ (wide = false → q.q4 < 40)
  | [], S, acc, v5, v6, v7, h, hl, hv => ⟨acc, S, v5, v6, v7, by simp, h, by simp, hv⟩
  | k :: ks, S, acc, v5, v6, v7, h, hl, hv => by
    have hl' : acc.length + (ks.length + 1) ≤ 1000 := by simpa using hl
    obtain ⟨q, S1, w6, w7, e1, n1, u1, u2⟩ := links_turn a h c hc hc2 wide acc (by omega) v2 (.d k) v6 v7
    obtain ⟨qs, S2, x5, x6, x7, e2, n2, l2, u3⟩ := links_loop a c hc hc2 wide v2 ks S1 (acc ++ [q]) (.d k) w6 w7 n1 (by simp; omega) (fun p hp => by
      rcases List.mem_append.mp hp with hp | hp
      · exact hv p hp
      · have : p = q := by simpa using hp
        subst this; exact ⟨u1, u2⟩)
    refine ⟨qs, S2, x5, x6, x7, ?_, n2, by rw [l2]; simp; omega, u3⟩
    rw [loop_cons rfl e1]
    exact e2
theorem links_ok (a : Ad) {rest S : Store} (h : Nx rest S) (c : Int) (hc : 1 ≤ c) (hc2 : c ≤ 12) (most : Int) (hm : 0 ≤ most) (hm2 : most ≤ 100) (wide : Bool) : ∃ (qs : List Quad) (S' : Store), g_law_links a [.ptr 1, .int c, .int most, .bl wide] S = .ok (tq qs) S' ∧ Nx rest S' ∧ (qs.length : Int) ≤ most ∧ ∀ q ∈ qs, isL c q = true ∧ (wide = false → q.q4 < 40) := by
  by_cases h1 : 1 < c
  · obtain ⟨r, S1, e1, a1, b1, n1⟩ := next_nx a h (most + 1) (by omega) (lg_small (by omega))
    obtain ⟨n, rfl⟩ : ∃ n : Nat, r = (n : Int) := ⟨r.toNat, by omega⟩
    obtain ⟨qs, S2, w5, w6, w7, e2, n2, l2, u2⟩ := links_loop a c h1 hc2 wide (.d (.int most)) ((List.range' 0 n).map fun (k : Nat) => D.int (k : Int)) S1 [] .u .u .u n1 (by simp; omega) (fun _ z => by cases z)
    refine ⟨qs, S2, ?_, n2, by rw [l2]; simp; omega, u2⟩
    have src : CL.iRange1 (CL.cIf (CL.tB (c2 oGt (cVar 1) (cK (.int 1)))) (cCall (g_law_next a) (aCons (cVar 0) (aCons (c2 oAdd (cVar 2) (cK (.int 1))) aNil))) (cK (.int 0))) [.d (.ptr 1), .d (.int c), .d (.int most), .d (.bl wide), .l [], .u, .u, .u] S = .ok ((List.range' 0 n).map fun (k : Nat) => D.int (k : Int)) S1 := by
      refine iRange1_nat ?_ (by omega)
      simp [oGt, oCmp, h1, oAdd, e1]
    simp only [List.map_nil] at e2
    refine run_rt ?_
    simp [c_law_links, q_law_links_2, src, e2, q_law_links_6, bTuple, tq]
  · refine ⟨[], S, ?_, h, by simpa using hm, fun _ z => by cases z⟩
    have src : CL.iRange1 (CL.cIf (CL.tB (c2 oGt (cVar 1) (cK (.int 1)))) (cCall (g_law_next a) (aCons (cVar 0) (aCons (c2 oAdd (cVar 2) (cK (.int 1))) aNil))) (cK (.int 0))) [.d (.ptr 1), .d (.int c), .d (.int most), .d (.bl wide), .l [], .u, .u, .u] S = .ok ((List.range' 0 0).map fun (k : Nat) => D.int (k : Int)) S := by
      refine iRange1_nat (n := 0) ?_ (by omega)
      simp [oGt, oCmp, h1]
    simp at src
    refine run_rt ?_
    simp [c_law_links, q_law_links_2, src, q_law_links_6, bTuple, tq]
end Law
set_option Elab.async false
set_option linter.all false
set_option maxRecDepth 100000
set_option maxHeartbeats 4000000
namespace Law
open PySem CL
variable [TheK]
theorem is_bridge_ok (a : Ad) (c : Int) (q : Quad) (S : Store) : g_Town_is_bridge a [.int c, qd q] S = .ok (.bl (isL c q)) S := by
  obtain ⟨q1, q2, q3, q4⟩ := q
  simp [g_Town_is_bridge, CL.run, c_Town_is_bridge, q_Town_is_bridge_1, q_Town_is_bridge_3, q_Town_is_bridge_4, q_Town_is_bridge_6, bLen, itemsOf, oLe, oLt, oCmp, qd]
  by_cases hB : (q1 < 0 ∨ c ≤ q1) ∨ (q2 < 0 ∨ c ≤ q2) ∨ q1 = q2
  · simp [hB]
    rw [Bool.eq_false_iff, Ne, isL_iff]
    omega
  · simp [hB]
    rw [Bool.eq_iff_iff, isL_iff]
    simp
    omega
def badFrom (c : Int) : Nat → List Quad → Option Nat
  | _, [] => none
  | k, q :: qs => if k = 24 ∨ isL c q = false then some k else badFrom c (k + 1) qs
def badOf (c : Int) (qs : List Quad) : Option (Str × Int) := if 1 ≤ c ∧ c ≤ 12 then (badFrom c 0 qs).map fun k => (("bridges" : Str), (k : Int)) else some (("count" : Str), 0)
/-- what InvalidTown is told -/
def exT (a : Ad) (p : Str) (k : Int) : Exn := ⟨a.C_InvalidTown, [("index" : Str), ("part" : Str)], [.int k, .str p]⟩

theorem in_loop (a : Ad) (c : Int) (S : Store) (o : SV) (qs : List Quad) : ∀ (suf : List Quad) (k : Nat) (v w : SV),
    ∃ v' w', loop (CL.gTup 2 (CL.gCons (gN 3) (CL.gCons (gN 4) CL.gNil))) (q_Town__init_4 a)
      (((suf.map qd).zipIdx k).map fun p => D.tup [.int (p.2 : Nat), p.1]) [o, .d (.int c), .d (tq qs), v, w] S = match badFrom c k suf with
        | some j => .exc (exT a ("bridges" : Str) j) [o, .d (.int c), .d (tq qs), v', w'] S
        | none => .nx [o, .d (.int c), .d (tq qs), v', w'] S
  | [], k, v, w => ⟨v, w, by simp [badFrom]⟩
  | q :: suf, k, v, w => by
    obtain ⟨v', w', ih⟩ := in_loop a c S o qs suf (k + 1) (.d (.int (k : Nat))) (.d (qd q))
    have g1 : (CL.gTup 2 (CL.gCons (gN 3) (CL.gCons (gN 4) CL.gNil))) (D.tup [.int (k : Nat), qd q]) [o, .d (.int c), .d (tq qs), v, w] = some [o, .d (.int c), .d (tq qs), .d (.int (k : Nat)), .d (qd q)] := rfl
    simp only [List.map_cons, List.zipIdx_cons, badFrom]
    by_cases h24 : k = 24
    · refine ⟨.d (.int (k : Nat)), .d (qd q), ?_⟩
      have h24' : (k : Int) = 24 := by omega
      rw [loop_exc g1 (z2 := [o, .d (.int c), .d (tq qs), .d (.int (k : Nat)), .d (qd q)]) (S2 := S) (e := exT a ("bridges" : Str) (k : Nat))]
      · simp [h24]
      · simp [q_Town__init_4, q_Town__init_5, h24', exT, h24]
    · have h24' : ¬ (k : Int) = 24 := by omega
      cases hq : isL c q with
      | true =>
        refine ⟨v', w', ?_⟩
        rw [loop_cons g1 (z2 := [o, .d (.int c), .d (tq qs), .d (.int (k : Nat)), .d (qd q)]) (S2 := S)]
        · simp [h24]; exact ih
        · simp [q_Town__init_4, h24', is_bridge_ok, hq]
      | false =>
        refine ⟨.d (.int (k : Nat)), .d (qd q), ?_⟩
        rw [loop_exc g1 (z2 := [o, .d (.int c), .d (tq qs), .d (.int (k : Nat)), .d (qd q)]) (S2 := S) (e := exT a ("bridges" : Str) (k : Nat))]
        · simp
        · simp [q_Town__init_4, q_Town__init_5, h24', is_bridge_ok, hq, exT]
theorem nsl : ¬ (("size" : Str) = ("links" : Str)) := by decide +kernel
theorem init_ok (a : Ad) (c : Int) (qs : List Quad) (S : Store) (i : Nat) (h : S[i]? = some (.ins a.C_Town [] [])) : g_Town__init a [.ptr i, .int c, tq qs] S = match badOf c qs with
    | some (p, k) => .exc (exT a p k) S
    | none => .ok .non (S.set i (.ins a.C_Town [("size" : Str), ("links" : Str)] [.int c, tq qs])) := by
  obtain ⟨v', w', hL⟩ := in_loop a c S (.d (.ptr i)) qs qs 0 .u .u
  have hi : i < S.length := (List.getElem?_eq_some_iff.mp h).1
  simp [g_Town__init, CL.run, c_Town__init, q_Town__init_1, q_Town__init_2, q_Town__init_3, q_Town__init_6, q_Town__init_7, oLe, oCmp]
  unfold badOf
  by_cases hc : 1 ≤ c ∧ c ≤ 12
  · have hc2 : ¬ (c < 1 ∨ 12 < c) := by omega
    have hc3 : ¬ (c ≤ 0 ∨ 12 < c) := by omega
    simp [hc, hc2, hc3, tq, enumD]
    simp [tq] at hL
    rw [hL]
    cases hb : badFrom c 0 qs with
    | none => simp [h, List.getElem?_set_self hi, putN, nsl]
    | some k => simp
  · have hc2 : (c < 1 ∨ 12 < c) := by omega
    have hc3 : (c ≤ 0 ∨ 12 < c) := by omega
    simp [hc, hc2, hc3, exT]
end Law
set_option Elab.async false
set_option linter.all false
set_option maxRecDepth 100000
set_option maxHeartbeats 4000000
namespace Law
open PySem CL
variable [TheK]
def pyq (q : Quad) : PyData := .tuple [.int q.q1, .int q.q2, .int q.q3, .int q.q4]
theorem toPy_qd (q : Quad) : toPy (qd q) = some (pyq q) := by simp [qd, pyq, toPy, toPys]
theorem toPys_qd : ∀ qs : List Quad, toPys (qs.map qd) = some (qs.map pyq)
  | [] => rfl
  | q :: qs => by simp [toPys, toPy_qd, toPys_qd qs]
theorem toPy_tq (qs : List Quad) : toPy (tq qs) = some (.tuple (qs.map pyq)) := by simp [tq, toPy, toPys_qd]
theorem can_qs : ∀ qs : List Quad, PyData.canLayAll0 (qs.map pyq) = true
  | [] => rfl
  | q :: qs => by simp [PyData.canLayAll0, PyData.canLay0, pyq, can_qs qs]
theorem dep_qs : ∀ qs : List Quad, PyData.depthAll (qs.map pyq) ≤ 1
  | [] => by simp [PyData.depthAll]
  | q :: qs => by
    have := dep_qs qs
    simp [PyData.depthAll, PyData.depth, pyq]
    omega
theorem shaped_tq (qs : List Quad) : SeqAt.shaped (.tuple (qs.map pyq)) = true := by
  have := dep_qs qs
  simp [SeqAt.shaped, PyData.canLay0, can_qs, PyData.depth]
  omega
theorem oEq_nil (qs : List Quad) (S : Store) : oEq false (tq qs) (.tup []) S = .ok (.bl qs.isEmpty) S := by
  have e : toPy (.tup []) = some (.tuple []) := by simp [toPy, toPys]
  have l1 : look S (tq qs) = tq qs := by simp [look, tq]
  have l2 : look S (.tup []) = .tup [] := by simp [look]
  have s0 := shaped_tq []
  simp only [List.map_nil] at s0
  unfold oEq
  rw [l1, l2, toPy_tq, e]
  dsimp only
  rw [shaped_tq, s0]
  cases qs with
  | nil => simp [PyData.eqv, PyData.eqvAll]
  | cons q qs => simp [PyData.eqv, PyData.eqvAll]
theorem eq_self (x : D) (d : PyData) (S : Store) (h : toPy x = some d) (hl : look S x = x) (hs : SeqAt.shaped d = true) (neg : Bool) : oEq neg x x S = .ok (.bl (!neg)) S := by
  have e : PyData.eqv d d = true := SeqAt.eqv_refl d (by
    unfold SeqAt.shaped at hs
    rw [Bool.and_eq_true] at hs
    exact hs.1)
  unfold oEq
  rw [hl, h]
  dsimp only
  rw [hs, e]
  cases neg <;> rfl
@[simp] theorem kb_NoneType_dict : L2.kitB "NoneType" "dict" = some false := by decide +kernel
@[simp] theorem kb_NoneType_tuple : L2.kitB "NoneType" "tuple" = some false := by decide +kernel
@[simp] theorem kb_NoneType_list : L2.kitB "NoneType" "list" = some false := by decide +kernel
@[simp] theorem kb_NoneType_str : L2.kitB "NoneType" "str" = some false := by decide +kernel
@[simp] theorem kb_NoneType_int : L2.kitB "NoneType" "int" = some false := by decide +kernel
@[simp] theorem kb_NoneType_bool : L2.kitB "NoneType" "bool" = some false := by decide +kernel
@[simp] theorem kb_bool_dict : L2.kitB "bool" "dict" = some false := by decide +kernel
@[simp] theorem kb_bool_tuple : L2.kitB "bool" "tuple" = some false := by decide +kernel
@[simp] theorem kb_bool_list : L2.kitB "bool" "list" = some false := by decide +kernel
@[simp] theorem kb_bool_str : L2.kitB "bool" "str" = some false := by decide +kernel
@[simp] theorem kb_bool_int : L2.kitB "bool" "int" = some true := by decide +kernel
@[simp] theorem kb_bool_bool : L2.kitB "bool" "bool" = some true := by decide +kernel
@[simp] theorem kb_int_dict : L2.kitB "int" "dict" = some false := by decide +kernel
@[simp] theorem kb_int_tuple : L2.kitB "int" "tuple" = some false := by decide +kernel
@[simp] theorem kb_int_list : L2.kitB "int" "list" = some false := by decide +kernel
@[simp] theorem kb_int_str : L2.kitB "int" "str" = some false := by decide +kernel
@[simp] theorem kb_int_int : L2.kitB "int" "int" = some true := by decide +kernel
@[simp] theorem kb_int_bool : L2.kitB "int" "bool" = some false := by decide +kernel
@[simp] theorem kb_str_dict : L2.kitB "str" "dict" = some false := by decide +kernel
@[simp] theorem kb_str_tuple : L2.kitB "str" "tuple" = some false := by decide +kernel
@[simp] theorem kb_str_list : L2.kitB "str" "list" = some false := by decide +kernel
@[simp] theorem kb_str_str : L2.kitB "str" "str" = some true := by decide +kernel
@[simp] theorem kb_str_int : L2.kitB "str" "int" = some false := by decide +kernel
@[simp] theorem kb_str_bool : L2.kitB "str" "bool" = some false := by decide +kernel
@[simp] theorem kb_tuple_dict : L2.kitB "tuple" "dict" = some false := by decide +kernel
@[simp] theorem kb_tuple_tuple : L2.kitB "tuple" "tuple" = some true := by decide +kernel
@[simp] theorem kb_tuple_list : L2.kitB "tuple" "list" = some false := by decide +kernel
@[simp] theorem kb_tuple_str : L2.kitB "tuple" "str" = some false := by decide +kernel
@[simp] theorem kb_tuple_int : L2.kitB "tuple" "int" = some false := by decide +kernel
@[simp] theorem kb_tuple_bool : L2.kitB "tuple" "bool" = some false := by decide +kernel
@[simp] theorem kb_list_dict : L2.kitB "list" "dict" = some false := by decide +kernel
@[simp] theorem kb_list_tuple : L2.kitB "list" "tuple" = some false := by decide +kernel
@[simp] theorem kb_list_list : L2.kitB "list" "list" = some true := by decide +kernel
@[simp] theorem kb_list_str : L2.kitB "list" "str" = some false := by decide +kernel
@[simp] theorem kb_list_int : L2.kitB "list" "int" = some false := by decide +kernel
@[simp] theorem kb_list_bool : L2.kitB "list" "bool" = some false := by decide +kernel
@[simp] theorem kb_bytes_dict : L2.kitB "bytes" "dict" = some false := by decide +kernel
@[simp] theorem kb_bytes_tuple : L2.kitB "bytes" "tuple" = some false := by decide +kernel
@[simp] theorem kb_bytes_list : L2.kitB "bytes" "list" = some false := by decide +kernel
@[simp] theorem kb_bytes_str : L2.kitB "bytes" "str" = some false := by decide +kernel
@[simp] theorem kb_bytes_int : L2.kitB "bytes" "int" = some false := by decide +kernel
@[simp] theorem kb_bytes_bool : L2.kitB "bytes" "bool" = some false := by decide +kernel

/-- data of numbers, truth values, texts, None, tuples, lists: at most n deep -/
def okD : Nat → D → Bool
  | _, .int _ => true
  | _, .bl _ => true
  | _, .non => true
  | _, .str s => PyData.canLay0 (.str s)
  | n + 1, .tup xs => decide (xs.length ≤ 1000) && xs.all (okD n)
  | n + 1, .lst xs => decide (xs.length ≤ 1000) && xs.all (okD n)
  | _, _ => false
theorem lcGo_none (g : Tg) (t : CT) (e : CE) (z : Sl) (S : Store) : ∀ (ds : List D) (acc : List D), (∀ d ∈ ds, ∃ z1, g d z = some z1 ∧ t z1 S = .ok false S) → lcGo g t e z ds S acc = .ok acc S
  | [], acc, _ => rfl
  | d :: ds, acc, h => by
    obtain ⟨z1, h1, h2⟩ := h d (by simp)
    unfold lcGo
    simp only [h1, h2]
    exact lcGo_none g t e z S ds acc fun d hd => h d (by simp [hd])
theorem oEq_nilL (S : Store) : oEq false (.lst []) (.lst []) S = .ok (.bl true) S := by
  simp [oEq, look, toPy, toPys, PyData.eqv, PyData.eqvAll]
  rfl

theorem eq_str (neg : Bool) (x y : Str) (S : Store) (hx : PyData.canLay0 (.str x) = true) (hy : PyData.canLay0 (.str y) = true) : oEq neg (.str x) (.str y) S = .ok (.bl (if neg then !(x == y) else (x == y))) S := by
  simp only [PyData.canLay0] at hx hy
  simp [oEq, look, toPy, SeqAt.shaped, PyData.canLay0, hx, hy, PyData.depth, PyData.eqv]
theorem eq_non (neg : Bool) (S : Store) : oEq neg .non .non S = .ok (.bl (!neg)) S := eq_self .non .none S rfl rfl (by decide +kernel) neg
theorem alike_seq (a : Ad) (n : Nat) (b : Bool) (xs : List D) (S : Store) (hl : xs.length ≤ 1000) (ih : ∀ x ∈ xs, g_law_alike a n [x, x] S = .ok (.bl true) S) :
    g_law_alike a (n + 1) [if b then .tup xs else .lst xs, if b then .tup xs else .lst xs] S = .ok (.bl true) S := by
  have it : CL.iRange1 (cApp bLen (aCons (cVar 1) aNil)) [.d (if b then .tup xs else .lst xs), .d (if b then .tup xs else .lst xs), .u] S = .ok ((List.range' 0 xs.length).map fun (k : Nat) => D.int (k : Int)) S := by
    refine iRange1_nat ?_ (by omega)
    cases b <;> simp [bLen, itemsOf]
  have lc : cLc (CL.iRange1 (cApp bLen (aCons (cVar 1) aNil))) (gN 2) (CL.tNot (CL.tB (cCall (g_law_alike a n) (aCons (c2 oIx (cVar 0) (cVar 2)) (aCons (c2 oIx (cVar 1) (cVar 2)) aNil))))) (cVar 2) [2] [.d (if b then .tup xs else .lst xs), .d (if b then .tup xs else .lst xs), .u] S = .ok (.lst []) S := by
    refine lc_eq it (lcGo_none _ _ _ _ _ _ _ fun d hd => ?_)
    simp only [List.mem_map, List.mem_range'_1] at hd
    obtain ⟨k, hk, rfl⟩ := hd
    have hk' : k < xs.length := by omega
    refine ⟨_, rfl, ?_⟩
    have e1 : L2.atI xs (k : Int) = some xs[k] := L2.atI_nat (by simp [hk'])
    have := ih xs[k] (List.getElem_mem hk')
    cases b <;> simp [wipeD, oIx, itemsOf, e1, this]
  refine run_rt ?_
  cases b
  · simp at lc
    simp [c_law_alike, q_law_alike_1, q_law_alike_3, q_law_alike_4, q_law_alike_6, q_law_alike_8, q_law_alike_9, q_law_alike_10, q_law_alike_11, bIsi, bIsi.kits, tyOf, bLen, itemsOf, lc, oEq_nilL]
  · simp at lc
    simp [c_law_alike, q_law_alike_1, q_law_alike_3, q_law_alike_4, q_law_alike_6, q_law_alike_8, q_law_alike_9, q_law_alike_10, q_law_alike_11, bIsi, bIsi.kits, tyOf, bLen, itemsOf, lc, oEq_nilL]
theorem alike_ok (a : Ad) (S : Store) : ∀ (n : Nat) (x : D), okD n x = true → g_law_alike a (n + 1) [x, x] S = .ok (.bl true) S
  | n, .int i, _ => run_rt (by simp [c_law_alike, q_law_alike_1, q_law_alike_3, q_law_alike_4, q_law_alike_6, q_law_alike_8, q_law_alike_9, q_law_alike_10, q_law_alike_11, bIsi, bIsi.kits, tyOf, xIsN, oIsN, isNon])
  | n, .bl b, _ => run_rt (by simp [c_law_alike, q_law_alike_1, q_law_alike_3, q_law_alike_4, q_law_alike_6, q_law_alike_8, q_law_alike_9, q_law_alike_10, q_law_alike_11, bIsi, bIsi.kits, tyOf, xIsN, oIsN, isNon])
  | n, .non, _ => run_rt (by simp [c_law_alike, q_law_alike_1, q_law_alike_3, q_law_alike_4, q_law_alike_6, q_law_alike_8, q_law_alike_9, q_law_alike_10, q_law_alike_11, bIsi, bIsi.kits, tyOf, xIsN, oIsN, isNon, eq_non])
  | n, .str s, h => run_rt (by
    have hs : PyData.canLay0 (.str s) = true := by cases n <;> simpa [okD] using h
    simp [c_law_alike, q_law_alike_1, q_law_alike_3, q_law_alike_4, q_law_alike_6, q_law_alike_8, q_law_alike_9, q_law_alike_10, q_law_alike_11, bIsi, bIsi.kits, tyOf, xIsN, oIsN, isNon, eq_str false s s S hs hs])
  | n + 1, .tup xs, h => by
    simp only [okD, Bool.and_eq_true, decide_eq_true_eq, List.all_eq_true] at h
    exact alike_seq a (n + 1) true xs S h.1 fun x hx => alike_ok a S n x (h.2 x hx)
  | n + 1, .lst xs, h => by
    simp only [okD, Bool.and_eq_true, decide_eq_true_eq, List.all_eq_true] at h
    exact alike_seq a (n + 1) false xs S h.1 fun x hx => alike_ok a S n x (h.2 x hx)
  | n, .byt _, h => by cases n <;> simp [okD] at h
  | n, .scr _, h => by cases n <;> simp [okD] at h
  | n, .dct _ _, h => by cases n <;> simp [okD] at h
  | n, .obj _ _ _, h => by cases n <;> simp [okD] at h
  | n, .ptr _, h => by cases n <;> simp [okD] at h
  | n, .ref _, h => by cases n <;> simp [okD] at h
  | n, .ty _, h => by cases n <;> simp [okD] at h
  | 0, .tup _, h => by simp [okD] at h
  | 0, .lst _, h => by simp [okD] at h
theorem okD_qd (q : Quad) : okD 1 (qd q) = true := by simp [okD, qd]
theorem okD_tq (qs : List Quad) (h : qs.length ≤ 1000) : okD 2 (tq qs) = true := by
  simp only [okD, tq, Bool.and_eq_true, decide_eq_true_eq, List.all_eq_true, List.length_map]
  refine ⟨h, fun x hx => ?_⟩
  obtain ⟨q, _, rfl⟩ := List.mem_map.mp hx
  exact okD_qd q

/-! a town in the store -/
def TownAt (a : Ad) (c : Int) (qs : List Quad) (j : Nat) (S : Store) : Prop := S[j]? = some (.ins a.C_Town [("size" : Str), ("links" : Str)] [.int c, tq qs])
theorem nsl2 : ¬ (("links" : Str) = ("size" : Str)) := by decide +kernel
theorem town_count (a : Ad) {S : Store} {c : Int} {qs : List Quad} {j : Nat} (h : TownAt a c qs j S) : g_Town_place_count a [.ptr j] S = .ok (.int c) S := by
  have h' : S[j]? = some (.ins a.C_Town [("size" : Str), ("links" : Str)] [.int c, tq qs]) := h
  exact run_rt (by simp [c_Town_place_count, q_Town_place_count_1, classOf, fieldOf, h'])
theorem town_links (a : Ad) {S : Store} {c : Int} {qs : List Quad} {j : Nat} (h : TownAt a c qs j S) : g_Town_bridges a [.ptr j] S = .ok (tq qs) S := by
  have h' : S[j]? = some (.ins a.C_Town [("size" : Str), ("links" : Str)] [.int c, tq qs]) := h
  have n1 := nsl2
  exact run_rt (by simp [c_Town_bridges, q_Town_bridges_1, classOf, fieldOf, h', List.lookup, beq_eq_false_iff_ne.mpr n1])
theorem nx_app {rest S : Store} (h : Nx rest S) (m : MO) : Nx (rest ++ [m]) (S ++ [m]) := by
  obtain ⟨a, b, c, d, rfl⟩ := h
  exact ⟨a, b, c, d, by simp⟩
theorem nx_set {rest S : Store} (h : Nx rest S) (i : Nat) (hi : 2 ≤ i) (m : MO) : Nx (rest.set (i - 2) m) (S.set i m) := by
  obtain ⟨a, b, c, d, rfl⟩ := h
  obtain ⟨j, rfl⟩ : ∃ j, i = j + 2 := ⟨i - 2, by omega⟩
  exact ⟨a, b, c, d, by simp [List.set]⟩
theorem nx_len {rest S : Store} (h : Nx rest S) : S.length = rest.length + 2 := by
  obtain ⟨a, b, c, d, rfl⟩ := h
  simp
theorem badFrom_none {c : Int} : ∀ {qs : List Quad} {k : Nat}, k + qs.length ≤ 24 → (∀ q ∈ qs, isL c q = true) → badFrom c k qs = none
  | [], k, _, _ => rfl
  | q :: qs, k, hl, h => by
    have hl' : k + (qs.length + 1) ≤ 24 := by simpa using hl
    have e := h q (by simp)
    unfold badFrom
    rw [if_neg (by simp [e]; omega)]
    exact badFrom_none (by omega) fun p hp => h p (by simp [hp])
end Law
set_option Elab.async false
set_option linter.all false
set_option maxRecDepth 100000
set_option maxHeartbeats 4000000
/-! T1: texts cut and joined at one sign. -/
namespace Law
open PySem CL
/-- its signs -/
abbrev sg (t : Str) : List Nat := TL.tl t
abbrev nl : Str := ("\n" : Str)
abbrev bk : Str := (" " : Str)
theorem sg_nl : sg nl = [10] := by rw [sg, nl, TL.tl_ofString]; decide
theorem sg_bk : sg bk = [32] := by rw [sg, bk, TL.tl_ofString]; decide
theorem spl1_cons (c x : Nat) (acc r : List Nat) : TL.spl [c] 0 acc (x :: r) = if x = c then acc :: TL.spl [c] 0 [] r else TL.spl [c] 0 (acc ++ [x]) r := by
  have e : TL.pre [c] (x :: r) = (x == c) := by simp [TL.pre]
  by_cases h : x = c
  · rw [if_pos h, TL.spl_hit (by rw [e]; simpa using h)]; rfl
  · rw [if_neg h, TL.spl_miss (by rw [e]; simpa using h)]
theorem spl1_ne (c : Nat) : ∀ (l acc : List Nat), TL.spl [c] 0 acc l ≠ []
  | [], acc => by rw [TL.spl_nil]; simp
  | x :: r, acc => by
    rw [spl1_cons]
    split
    · simp
    · exact spl1_ne c r _
theorem spl1_mem (c : Nat) : ∀ (l acc p : List Nat), p ∈ TL.spl [c] 0 acc l → ∀ x ∈ p, x ∈ acc ∨ x ∈ l
  | [], acc, p, hp, x, hx => by
    rw [TL.spl_nil] at hp
    have : p = acc := by simpa using hp
    subst this; exact .inl hx
  | y :: r, acc, p, hp, x, hx => by
    rw [spl1_cons] at hp
    split at hp
    · rcases List.mem_cons.mp hp with e | hp
      · subst e; exact .inl hx
      · rcases spl1_mem c r [] p hp x hx with q | q
        · cases q
        · exact .inr (List.mem_cons_of_mem _ q)
    · rcases spl1_mem c r _ p hp x hx with q | q
      · rcases List.mem_append.mp q with q | q
        · exact .inl q
        · have : x = y := by simpa using q
          subst this; exact .inr (List.mem_cons_self ..)
      · exact .inr (List.mem_cons_of_mem _ q)
theorem spl1_no (c : Nat) : ∀ (l acc p : List Nat), c ∉ acc → p ∈ TL.spl [c] 0 acc l → c ∉ p
  | [], acc, p, ha, hp => by
    rw [TL.spl_nil] at hp
    have : p = acc := by simpa using hp
    subst this; exact ha
  | y :: r, acc, p, ha, hp => by
    rw [spl1_cons] at hp
    split at hp
    · rcases List.mem_cons.mp hp with e | hp
      · subst e; exact ha
      · exact spl1_no c r [] p (by simp) hp
    · rename_i h
      exact spl1_no c r _ p (by simp; exact ⟨ha, fun e => h e.symm⟩) hp
theorem spl1_len (c : Nat) : ∀ (l acc : List Nat), ((TL.spl [c] 0 acc l).map List.length).sum + (TL.spl [c] 0 acc l).length = acc.length + l.length + 1
  | [], acc => by rw [TL.spl_nil]; simp
  | y :: r, acc => by
    rw [spl1_cons]
    split
    · have := spl1_len c r []
      simp at this ⊢
      omega
    · have := spl1_len c r (acc ++ [y])
      simp at this ⊢
      omega
theorem mem_sum {l : List Nat} {x : Nat} (h : x ∈ l) : x ≤ l.sum := by
  induction l with
  | nil => cases h
  | cons y r ih =>
    rcases List.mem_cons.mp h with e | h
    · subst e; simp
    · have := ih h; simp; omega
theorem join_mem (s : List Nat) : ∀ (ps : List (List Nat)) (x : Nat), x ∈ TL.joinL s ps → x ∈ s ∨ ∃ p ∈ ps, x ∈ p
  | [], x, h => by cases h
  | [p], x, h => .inr ⟨p, by simp, h⟩
  | p :: q :: r, x, h => by
    have h' : x ∈ p ++ (s ++ TL.joinL s (q :: r)) := h
    rcases List.mem_append.mp h' with h' | h'
    · exact .inr ⟨p, by simp, h'⟩
    · rcases List.mem_append.mp h' with h' | h'
      · exact .inl h'
      · rcases join_mem s (q :: r) x h' with z | ⟨u, hu, z⟩
        · exact .inl z
        · exact .inr ⟨u, List.mem_cons_of_mem _ hu, z⟩
theorem join_len (c : Nat) : ∀ (ps : List (List Nat)), ps ≠ [] → (TL.joinL [c] ps).length + 1 = (ps.map List.length).sum + ps.length
  | [], h => absurd rfl h
  | [p], _ => by show p.length + 1 = _; simp
  | p :: q :: r, _ => by
    have ih := join_len c (q :: r) (by simp)
    show (p ++ ([c] ++ TL.joinL [c] (q :: r))).length + 1 = _
    simp at ih ⊢
    omega
/-! ### the same of texts -/
theorem split_sg (t : Str) {y : Str} {c : Nat} (hy : sg y = [c]) (hc : c < 256) : (Txt.split t y).map sg = TL.spl [c] 0 [] (sg t) := by
  have k : y.cps.all (· < 256) = true := by
    rw [← Array.all_toList]
    show (sg y).all _ = true
    rw [hy]; simpa using hc
  have := TL.split_spl t y (by rw [show TL.tl y = sg y from rfl, hy]; simp) (TL.kind_ok k)
  rw [show TL.tl y = sg y from rfl, hy] at this
  exact this
theorem len_sg (t : Str) : t.length = (sg t).length := TL.len_tl t
section
variable (t : Str) {y : Str} {c : Nat} (hy : sg y = [c]) (hc : c < 256)
include hy hc
theorem split_ne : Txt.split t y ≠ [] := fun e => spl1_ne c (sg t) [] (by rw [← split_sg t hy hc, e]; rfl)
theorem split_mem {p : Str} (hp : p ∈ Txt.split t y) {x : Nat} (hx : x ∈ sg p) : x ∈ sg t := by
  have h : sg p ∈ TL.spl [c] 0 [] (sg t) := by rw [← split_sg t hy hc]; exact List.mem_map.mpr ⟨p, hp, rfl⟩
  rcases spl1_mem c (sg t) [] _ h x hx with q | q
  · cases q
  · exact q
theorem split_no {p : Str} (hp : p ∈ Txt.split t y) : c ∉ sg p := by
  have h : sg p ∈ TL.spl [c] 0 [] (sg t) := by rw [← split_sg t hy hc]; exact List.mem_map.mpr ⟨p, hp, rfl⟩
  exact spl1_no c (sg t) [] _ (by simp) h
theorem split_len : ((Txt.split t y).map (·.length)).sum + (Txt.split t y).length = t.length + 1 := by
  have := spl1_len c (sg t) []
  rw [← split_sg t hy hc] at this
  simp only [List.map_map, List.length_map, List.length_nil, Nat.zero_add] at this
  rw [len_sg t]
  refine Eq.trans ?_ this
  congr 2
theorem split_small {p : Str} (hp : p ∈ Txt.split t y) : p.length ≤ t.length := by
  have h1 := split_len t hy hc
  have h2 : p.length ≤ ((Txt.split t y).map (·.length)).sum := mem_sum (List.mem_map.mpr ⟨p, hp, rfl⟩)
  have h3 : 0 < (Txt.split t y).length := List.length_pos_iff.mpr (split_ne t hy hc)
  omega
theorem split_count : (Txt.split t y).length ≤ t.length + 1 := by
  have h1 := split_len t hy hc
  omega
end
section
variable {ps : List Str} {y : Str} {c : Nat} (hy : sg y = [c])
include hy
theorem sg_join (ps : List Str) : sg (Txt.join y ps) = TL.joinL [c] (ps.map sg) := by
  rw [TL.join_eq, show sg (Str.join y ps) = TL.tl (Str.join y ps) from rfl, TL.tl_join, show TL.tl y = sg y from rfl, hy]
theorem joined_mem {x : Nat} (hx : x ∈ sg (Txt.join y ps)) : x = c ∨ ∃ p ∈ ps, x ∈ sg p := by
  rw [sg_join hy] at hx
  rcases join_mem _ _ x hx with q | ⟨p, hp, q⟩
  · exact .inl (by simpa using q)
  · obtain ⟨u, hu, rfl⟩ := List.mem_map.mp hp
    exact .inr ⟨u, hu, q⟩
theorem joined_len (hp : ps ≠ []) : (Txt.join y ps).length + 1 = (ps.map (·.length)).sum + ps.length := by
  rw [len_sg, sg_join hy, join_len c _ (by simpa using hp)]
  simp only [List.map_map, List.length_map]
  congr 2
theorem joined_back (hc : c < 256) (hp : ps ≠ []) (hn : ∀ p ∈ ps, c ∉ sg p) : Txt.split (Txt.join y ps) y = ps :=
  TL.split_join (s := c) (S := []) hy (by
    rw [← Array.all_toList]
    show (sg y).all _ = true
    rw [hy]; simpa using hc) hp hn
end
/-- a text that the machine can hold -/
def chOk (t : Str) : Prop := ∀ x ∈ sg t, x < 0x110000
theorem can_str {t : Str} (h : chOk t) : PyData.canLay0 (.str t) = true := by
  show (t.cps.all (· < 0x110000)) = true
  rw [← Array.all_toList]
  simp only [List.all_eq_true, decide_eq_true_eq]
  exact h
theorem chOk_lit {s : String} (h : (s.toList.map Char.toNat).all (· < 0x110000) = true) : chOk (Str.ofString s) := fun x hx => by
  rw [show sg (Str.ofString s) = TL.tl (Str.ofString s) from rfl, TL.tl_ofString] at hx
  simp only [List.all_eq_true, decide_eq_true_eq] at h
  exact h x hx
theorem chOk_split {t p y : Str} {c : Nat} (hy : sg y = [c]) (hc : c < 256) (h : chOk t) (hp : p ∈ Txt.split t y) : chOk p := fun x hx => h x (split_mem t hy hc hp hx)
theorem chOk_join {ps : List Str} {y : Str} {c : Nat} (hy : sg y = [c]) (hc : c < 256) (h : ∀ p ∈ ps, chOk p) : chOk (Txt.join y ps) := fun x hx => by
  rcases joined_mem hy hx with q | ⟨p, hp, q⟩
  · subst q; omega
  · exact h p hp x q
end Law
set_option Elab.async false
set_option linter.all false
set_option maxRecDepth 100000
set_option maxHeartbeats 4000000
/-! T2: numbers read from words. -/
namespace Law
open PySem CL
variable [TheK]
def isDg (c : Nat) : Bool := decide (48 ≤ c) && decide (c ≤ 57)
/-- a word that is a number -/
def wOk (w : Str) : Bool := !(sg w).isEmpty && (sg w).all isDg && !(decide (1 < (sg w).length) && (sg w)[0]? == some 48)
def wVal (w : Str) : Int := ((NumText.digitsVal (sg w) : Nat) : Int)
def numsOf (ws : List Str) : Option (List Int) := if ws.all wOk then some (ws.map wVal) else none
def numsD (ws : List Str) : D := match numsOf ws with
  | none => .non
  | some ns => .lst (ns.map D.int)
theorem str_empty {w : Str} (h : chOk w) (S : Store) : oEq false (.str w) (.str ("" : Str)) S = .ok (.bl (sg w).isEmpty) S := by
  have h0 : chOk ("" : Str) := chOk_lit (by decide)
  rw [eq_str false w ("" : Str) S (can_str h) (can_str h0)]
  have : (w == ("" : Str)) = (sg w).isEmpty := by
    rw [Bool.eq_iff_iff, beq_iff_eq, List.isEmpty_iff]
    exact ⟨fun e => by rw [e]; rfl, fun e => TL.ext_tl (by rw [show TL.tl w = sg w from rfl, e]; rfl)⟩
  rw [this]
  rfl
def oneS (c : Nat) : Str := ⟨#[c]⟩
theorem sg_one (c : Nat) : sg (oneS c) = [c] := rfl
theorem eq_one {c d : Nat} (hc : c < 0x110000) (hd : d < 0x110000) (neg : Bool) (S : Store) : oEq neg (.str (oneS c)) (.str (oneS d)) S = .ok (.bl (if neg then !decide (c = d) else decide (c = d))) S := by
  have h1 : chOk (oneS c) := fun x hx => by rw [sg_one] at hx; have : x = c := by simpa using hx
                                            omega
  have h2 : chOk (oneS d) := fun x hx => by rw [sg_one] at hx; have : x = d := by simpa using hx
                                            omega
  rw [eq_str neg _ _ S (can_str h1) (can_str h2)]
  have : (oneS c == oneS d) = decide (c = d) := by
    rw [Bool.eq_iff_iff, beq_iff_eq, decide_eq_true_eq]
    refine ⟨fun e => ?_, fun e => by rw [e]⟩
    have := congrArg sg e
    rw [sg_one, sg_one] at this
    simpa using this
  rw [this]
theorem lit_one : ("0" : Str) = oneS 48 := by rfl
theorem lit_nine : ("9" : Str) = oneS 57 := by rfl
theorem sg_digits : sg ("0123456789" : Str) = [48, 49, 50, 51, 52, 53, 54, 55, 56, 57] := by rw [sg, TL.tl_ofString]; decide
theorem in_digits (c : Nat) : decide (c ∈ sg ("0123456789" : Str)) = isDg c := by
  rw [sg_digits, Bool.eq_iff_iff, decide_eq_true_eq]
  simp [isDg]
  omega
/-- a list of signs against [] -/
theorem toPys_signs : ∀ cs : List Nat, toPys (cs.map fun c => D.str (oneS c)) = some (cs.map fun c => PyData.str (oneS c))
  | [] => rfl
  | c :: cs => by simp [toPys, toPy, toPys_signs cs]
theorem can_signs : ∀ cs : List Nat, (∀ c ∈ cs, c < 0x110000) → PyData.canLayAll0 (cs.map fun c => PyData.str (oneS c)) = true
  | [], _ => rfl
  | c :: cs, h => by
    have h1 : PyData.canLay0 (.str (oneS c)) = true := can_str fun x hx => by
      rw [sg_one] at hx
      have : x = c := by simpa using hx
      have := h c (by simp)
      omega
    simp only [List.map_cons, PyData.canLayAll0, h1, can_signs cs fun d hd => h d (by simp [hd]), Bool.and_self]
theorem dep_signs : ∀ cs : List Nat, PyData.depthAll (cs.map fun c => PyData.str (oneS c)) ≤ 1
  | [] => by simp [PyData.depthAll]
  | c :: cs => by
    have := dep_signs cs
    simp [PyData.depthAll, PyData.depth]
    omega
theorem signs_nil (neg : Bool) (cs : List Nat) (h : ∀ c ∈ cs, c < 0x110000) (S : Store) : oEq neg (.lst (cs.map fun c => D.str (oneS c))) (.lst []) S = .ok (.bl (if neg then !cs.isEmpty else cs.isEmpty)) S := by
  have e1 : toPy (.lst (cs.map fun c => D.str (oneS c))) = some (.list (cs.map fun c => PyData.str (oneS c))) := by simp [toPy, toPys_signs]
  have e2 : toPy (.lst []) = some (.list []) := by simp [toPy, toPys]
  have s1 : SeqAt.shaped (.list (cs.map fun c => PyData.str (oneS c))) = true := by
    have := dep_signs cs
    simp [SeqAt.shaped, PyData.canLay0, can_signs cs h, PyData.depth]
    omega
  have s2 : SeqAt.shaped (.list []) = true := by decide +kernel
  unfold oEq
  rw [show look S (.lst (cs.map fun c => D.str (oneS c))) = .lst (cs.map fun c => D.str (oneS c)) from rfl, show look S (.lst []) = .lst [] from rfl, e1, e2]
  dsimp only
  rw [s1, s2]
  cases cs with
  | nil => cases neg <;> simp [PyData.eqv, PyData.eqvAll]
  | cons c cs => cases neg <;> simp [PyData.eqv, PyData.eqvAll]
theorem sgs_eq (w : Str) : (w.cps.toList.map fun c => D.str ⟨#[c]⟩) = (sg w).map fun c => D.str (oneS c) := rfl
/-- the signs of a word that are no digits -/
def odd (w : Str) : List Nat := (sg w).filter fun c => !isDg c
theorem odd_nil (w : Str) : (odd w).isEmpty = (sg w).all isDg := by
  unfold odd
  rw [Bool.eq_iff_iff, List.isEmpty_iff, List.filter_eq_nil_iff, List.all_eq_true]
  simp
theorem odd_ok {w : Str} (h : chOk w) : ∀ c ∈ odd w, c < 0x110000 := fun c hc => h c (List.mem_filter.mp hc).1
theorem map_oneS {p : Nat → Bool} {ds : List Nat} {pD : D → Bool} (h : ∀ c, pD (.str (oneS c)) = p c) : ((ds.map fun c => D.str (oneS c)).filter pD).map id = (ds.filter p).map fun c => D.str (oneS c) := by
  rw [List.map_id, List.filter_map]
  congr 1
  exact List.filter_congr fun c _ => h c
/-- the test of a word, its tail: more than one sign, a zero ahead -/
theorem zero_ahead {w : Str} (h : chOk w) (hl : w.length ≤ 640) (i : Nat) (z : Sl) (hz : z[i]? = some (.d (.str w))) (S : Store) : CL.tAnd (CL.tB (c2 oGt (cApp bLen (aCons (cVar i) aNil)) (cK (.int 1)))) (CL.tB (c2 (oEq false) (c2 oIxS (cVar i) (cK (.int 0))) (cK (.str ("0" : Str))))) z S = .ok (decide (1 < (sg w).length) && (sg w)[0]? == some 48) S := by
  have hl2 : w.length ≤ 16777216 := by omega
  have hl3 : w.length = (sg w).length := len_sg w
  by_cases h1 : 1 < (sg w).length
  · have h1' : (1 : Int) < w.length := by omega
    cases hw : sg w with
    | nil => rw [hw] at h1; simp at h1
    | cons c r =>
      have h0 : L2.atI (sg w) 0 = some c := by rw [hw]; exact atI0 _ _
      have h0' : L2.atI w.cps.toList 0 = some c := h0
      have hc : c < 0x110000 := h c (by rw [hw]; simp)
      have e := eq_one hc (show 48 < 0x110000 by decide) false S
      simp [hz, bLen, hl2, oGt, oCmp, h1', oIxS, h0']
      rw [show ({ cps := #[c] } : Str) = oneS c from rfl, show Str.ofString "0" = oneS 48 from rfl, e]
      rw [hw] at h1
      simp at h1 ⊢
      simp [h1]
      cases r with
      | nil => simp at h1
      | cons _ _ => by_cases q : c = 48 <;> simp [q]
  · have h1' : ¬ (1 : Int) < w.length := by omega
    simp [hz, bLen, hl2, oGt, oCmp, h1']
    intro q
    exact absurd q h1
end Law
set_option Elab.async false
set_option linter.all false
set_option maxRecDepth 100000
set_option maxHeartbeats 4000000
/-! T3: both readers of numbers. -/
namespace Law
open PySem CL
variable [TheK]
def pOdd : D → Bool
  | .str s => match sg s with
    | [c] => !isDg c
    | _ => false
  | _ => false
theorem pOdd_one (c : Nat) : pOdd (.str (oneS c)) = !isDg c := rfl
theorem lt_one (c d : Nat) : decide ([c] < [d]) = decide (c < d) := by
  rw [Bool.eq_iff_iff, decide_eq_true_eq, decide_eq_true_eq]
  constructor
  · intro h
    cases h with
    | rel h => exact h
    | cons h => exact absurd h (by intro q; cases q)
  · intro h; exact .rel h
theorem odd_lc {w : Str} (hl : w.length ≤ 640) (t : CT) (z : Sl) (hz : z[1]? = some (.d (.str w))) (S : Store)
    (ht : ∀ c ∈ sg w, t ((wipeD z [2]).set 2 (.d (.str (oneS c)))) S = .ok (!isDg c) S) (h2 : 2 < z.length) : cLc (iStrC (cVar 1)) (gN 2) t (cVar 2) [2] z S = .ok (.lst ((odd w).map fun c => D.str (oneS c))) S := by
  have it : iStrC (cVar 1) z S = .ok ((sg w).map fun c => D.str (oneS c)) S := by
    rw [ev_iStr, ev_var, hz]; rfl
  have hlen : (sg w).length ≤ 640 := by rw [← len_sg]; exact hl
  have key := lc_filter (gN 2) t (cVar 2) (wipeD z [2]) S pOdd id ((sg w).map fun c => D.str (oneS c)) [] (by rw [List.length_map]; simp only [List.length_nil]; omega) (fun d hd => by
    obtain ⟨c, hc, rfl⟩ := List.mem_map.mp hd
    refine ⟨_, rfl, ht c hc, ?_⟩
    have : ((wipeD z [2]).set 2 (.d (.str (oneS c))))[2]? = some (.d (.str (oneS c))) := List.getElem?_set_self (by simp [wipeD]; omega)
    simp [this])
  rw [map_oneS pOdd_one, List.nil_append] at key
  exact lc_eq it key
theorem word_test {w : Str} (h : chOk w) (hl : w.length ≤ 640) (t : CT) (z : Sl) (hz : z[1]? = some (.d (.str w))) (S : Store)
    (ht : ∀ c ∈ sg w, t ((wipeD z [2]).set 2 (.d (.str (oneS c)))) S = .ok (!isDg c) S) (h2 : 2 < z.length) :
    CL.tOr (CL.tB (c2 (oEq false) (cVar 1) (cK (.str ("" : Str))))) (CL.tOr (CL.tB (c2 (oEq true) (cLc (iStrC (cVar 1)) (gN 2) t (cVar 2) [2]) (cLst aNil))) (CL.tAnd (CL.tB (c2 oGt (cApp bLen (aCons (cVar 1) aNil)) (cK (.int 1)))) (CL.tB (c2 (oEq false) (c2 oIxS (cVar 1) (cK (.int 0))) (cK (.str ("0" : Str))))))) z S = .ok (!wOk w) S := by
  have e1 := str_empty h S
  have e2 := odd_lc hl t z hz S ht h2
  have e3 := signs_nil true (odd w) (odd_ok h) S
  have e4 := zero_ahead h hl 1 z hz S
  have a1 : CL.tB (c2 (oEq false) (cVar 1) (cK (.str ("" : Str)))) z S = .ok (sg w).isEmpty S := by simp [hz, e1]
  have a2 : CL.tB (c2 (oEq true) (cLc (iStrC (cVar 1)) (gN 2) t (cVar 2) [2]) (cLst aNil)) z S = .ok (!(sg w).all isDg) S := by
    rw [ev_tB, ev_c2, e2]
    simp [e3, odd_nil]
  rw [ev_tOr, a1]
  simp only [R.bind, ev_tOr, a2, e4]
  unfold wOk
  cases q1 : (sg w).isEmpty with
  | true => simp
  | false =>
    cases q2 : (sg w).all isDg with
    | false => simp
    | true => simp
theorem law_word (a : Ad) {w : Str} (h : chOk w) (hl : w.length ≤ 640) (x v : SV) (S : Store) : q_law_numbers_2 a [x, .d (.str w), v] S = if wOk w then .nx [x, .d (.str w), v] S else .rt .non S := by
  have e := word_test h hl (CL.tNot (CL.tB (cChain oLeS oLeS (cK (.str ("0" : Str))) (cVar 2) (cK (.str ("9" : Str)))))) [x, .d (.str w), v] rfl S (fun c hc => by
    have g : oLeS (.str ("0" : Str)) (.str (oneS c)) S = .ok (.bl (!decide (c < 48))) S := by
      rw [lit_one]; show R.ok (D.bl (!decide ([c] < [48]))) S = _; rw [lt_one]
    have g2 : oLeS (.str (oneS c)) (.str ("9" : Str)) S = .ok (.bl (!decide (57 < c))) S := by
      rw [lit_nine]; show R.ok (D.bl (!decide ([57] < [c]))) S = _; rw [lt_one]
    simp [wipeD, g, g2, isDg]
    by_cases q : c < 48
    · simp [q, show ¬ 48 ≤ c by omega]
    · simp [q, show 48 ≤ c by omega]
      by_cases q2 : 57 < c
      · simp [q2]
      · simp [q2]; omega) (by simp)
  unfold q_law_numbers_2
  rw [ev_sif, e]
  cases wOk w <;> simp
theorem prog_word (a : Ad) {w : Str} (h : chOk w) (hl : w.length ≤ 640) (x v : SV) (S : Store) : q_parse_numbers_2 a [x, .d (.str w), v] S = if wOk w then .nx [x, .d (.str w), v] S else .rt .non S := by
  have e := word_test h hl (CL.tB (c2 (oInS true) (cVar 2) (cK (.str ("0123456789" : Str))))) [x, .d (.str w), v] rfl S (fun c hc => by
    have g : oInS true (.str (oneS c)) (.str ("0123456789" : Str)) S = .ok (.bl (!isDg c)) S := by
      show R.ok (D.bl (!decide (c ∈ sg ("0123456789" : Str)))) S = _
      rw [in_digits]
    simp [wipeD, g]) (by simp)
  unfold q_parse_numbers_2
  rw [ev_sif, e]
  cases wOk w <;> simp
theorem words_loop (b : CS) (hb : ∀ (w : Str) (x v : SV) (S : Store), chOk w → w.length ≤ 640 → b [x, .d (.str w), v] S = if wOk w then .nx [x, .d (.str w), v] S else .rt .non S) (x v : SV) (S : Store) :
    ∀ (ws : List Str) (u : SV), (∀ w ∈ ws, chOk w ∧ w.length ≤ 640) → ∃ u', loop (gN 1) b (ws.map D.str) [x, u, v] S = if ws.all wOk then .nx [x, u', v] S else .rt .non S
  | [], u, _ => ⟨u, by simp⟩
  | w :: ws, u, h => by
    obtain ⟨u', ih⟩ := words_loop b hb x v S ws (.d (.str w)) fun p hp => h p (by simp [hp])
    have h1 := h w (by simp)
    refine ⟨u', ?_⟩
    have e := hb w x v S h1.1 h1.2
    cases q : wOk w with
    | true =>
      rw [q] at e
      rw [List.map_cons, loop_cons rfl e, ih]
      simp [q]
    | false =>
      rw [q] at e
      rw [List.map_cons, loop_rt rfl e]
      simp [q]
theorem int_word {w : Str} (hl : w.length ≤ 640) (h : wOk w = true) (S : Store) : bIntS [.str w] S = .ok (.int (wVal w)) S := by
  unfold wOk at h
  simp only [Bool.and_eq_true, Bool.not_eq_true', List.isEmpty_eq_false_iff, List.all_eq_true] at h
  have e : intText? w = some (wVal w) := PySem.intText_digits (fun c hc => by have := h.1.2 c hc; simpa [isDg] using this) h.1.1 (by omega)
  unfold bIntS
  simp [e, hl]
theorem ints_lc {ws : List Str} (hw : ∀ w ∈ ws, w.length ≤ 640) (hn : ws.length ≤ 100000) (h : ws.all wOk = true) (z : Sl) (S : Store) (h0 : z[0]? = some (.d (.lst (ws.map D.str)))) (h1 : 1 < z.length) : cLc (CL.iSeq (cVar 0)) (gN 1) tYesC (cApp bIntS (aCons (cVar 1) aNil)) [1] z S = .ok (.lst ((ws.map wVal).map D.int)) S := by
  have it : CL.iSeq (cVar 0) z S = .ok (ws.map D.str) S := by simp [h0]
  let f : D → D := fun d => match d with | .str w => .int (wVal w) | d => d
  have key := lc_map (gN 1) tYesC (cApp bIntS (aCons (cVar 1) aNil)) (wipeD z [1]) S f (ws.map D.str) [] (by simp; omega) (fun d hd => by
    obtain ⟨w, hwm, rfl⟩ := List.mem_map.mp hd
    refine ⟨_, rfl, rfl, ?_⟩
    have e : ((wipeD z [1]).set 1 (.d (.str w)))[1]? = some (.d (.str w)) := List.getElem?_set_self (by simp [wipeD]; omega)
    simp only [List.all_eq_true] at h
    simp [e, int_word (hw w hwm) (h w hwm), f])
  have e2 : (ws.map D.str).map f = (ws.map wVal).map D.int := by simp [f]
  rw [e2, List.nil_append] at key
  exact lc_eq it key
theorem law_numbers (a : Ad) (ws : List Str) (hw : ∀ w ∈ ws, chOk w ∧ w.length ≤ 640) (hn : ws.length ≤ 100000) (S : Store) : g_law_numbers a [.lst (ws.map D.str)] S = .ok (numsD ws) S := by
  obtain ⟨u', e⟩ := words_loop (q_law_numbers_2 a) (fun w x v S h1 h2 => law_word a h1 h2 x v S) (.d (.lst (ws.map D.str))) .u S ws .u hw
  refine run_rt ?_
  show c_law_numbers a [.d (.lst (ws.map D.str)), .u, .u] S = _
  unfold c_law_numbers q_law_numbers_1
  unfold numsD numsOf
  cases q : ws.all wOk with
  | true =>
    rw [q] at e
    have e1 : sFor (CL.iSeq (cVar 0)) (gN 1) (q_law_numbers_2 a) [.d (.lst (ws.map D.str)), .u, .u] S = .nx [.d (.lst (ws.map D.str)), u', .u] S := by simpa using e
    rw [seq_nx e1]
    unfold q_law_numbers_4
    rw [ev_ret, ints_lc (fun w h => (hw w h).2) hn q _ S rfl (by simp)]
    simp
  | false =>
    rw [q] at e
    have e1 : sFor (CL.iSeq (cVar 0)) (gN 1) (q_law_numbers_2 a) [.d (.lst (ws.map D.str)), .u, .u] S = .rt .non S := by simpa using e
    rw [seq_rt e1]
    simp
theorem prog_numbers (a : Ad) (ws : List Str) (hw : ∀ w ∈ ws, chOk w ∧ w.length ≤ 640) (hn : ws.length ≤ 100000) (S : Store) : g_parse_numbers a [.lst (ws.map D.str)] S = .ok (numsD ws) S := by
  obtain ⟨u', e⟩ := words_loop (q_parse_numbers_2 a) (fun w x v S h1 h2 => prog_word a h1 h2 x v S) (.d (.lst (ws.map D.str))) .u S ws .u hw
  refine run_rt ?_
  show c_parse_numbers a [.d (.lst (ws.map D.str)), .u, .u] S = _
  unfold c_parse_numbers q_parse_numbers_1
  unfold numsD numsOf
  cases q : ws.all wOk with
  | true =>
    rw [q] at e
    have e1 : sFor (CL.iSeq (cVar 0)) (gN 1) (q_parse_numbers_2 a) [.d (.lst (ws.map D.str)), .u, .u] S = .nx [.d (.lst (ws.map D.str)), u', .u] S := by simpa using e
    rw [seq_nx e1]
    unfold q_parse_numbers_4
    rw [ev_ret, ints_lc (fun w h => (hw w h).2) hn q _ S rfl (by simp)]
    simp
  | false =>
    rw [q] at e
    have e1 : sFor (CL.iSeq (cVar 0)) (gN 1) (q_parse_numbers_2 a) [.d (.lst (ws.map D.str)), .u, .u] S = .rt .non S := by simpa using e
    rw [seq_rt e1]
    simp
end Law
set_option Elab.async false
set_option linter.all false
set_option maxRecDepth 100000
set_option maxHeartbeats 4000000
/-! T4: what a text of a town says, and that the law's reader says so. -/
namespace Law
open PySem CL
variable [TheK]
theorem cut_suf (xs : List D) (k : Nat) (h : k ≤ xs.length) : cutL xs (some (k : Int)) none = xs.drop k := by
  unfold cutL
  rw [HT.sIx_none, HT.sIx_nat, Nat.min_eq_left h]
  rw [List.take_of_length_le (by simp)]
theorem cut_pre (xs : List D) (k : Nat) (h : k ≤ xs.length) : cutL xs none (some (k : Int)) = xs.take k := by
  unfold cutL
  rw [HT.sIx_none, HT.sIx_nat, Nat.min_eq_left h]
  simp
theorem cut_tail (x : D) (xs : List D) : cutL (x :: xs) (some 1) none = xs := by
  have := cut_suf (x :: xs) 1 (by simp)
  simpa using this
def wsD (ws : List Str) : D := .lst (ws.map D.str)
def lsD (ls : List (List Str)) : D := .lst (ls.map wsD)
def LS (t : Str) : List (List Str) := (Txt.split t nl).map fun l => Txt.split l bk
/-- a text within the bounds -/
structure Gt (M T : Nat) (t : Str) : Prop where
  ok : chOk t
  len : t.length ≤ T
  line : ∀ l ∈ Txt.split t nl, l.length ≤ M
/-- rows of words within the bounds -/
structure Gl (ls : List (List Str)) : Prop where
  ne : ls ≠ []
  num : ls.length ≤ 100000
  row : ∀ ws ∈ ls, ws ≠ [] ∧ ws.length ≤ 100000 ∧ ∀ w ∈ ws, chOk w ∧ w.length ≤ 640
theorem Gt.gl {M T : Nat} {t : Str} (g : Gt M T t) (hM : M ≤ 640) (hT : T ≤ 90000) : Gl (LS t) where
  ne := by
    have := split_ne t sg_nl (by decide)
    simpa [LS] using this
  num := by
    have h1 := split_count t sg_nl (by decide)
    have h2 := g.len
    simp [LS]; omega
  row := fun ws hws => by
    obtain ⟨l, hl, rfl⟩ := List.mem_map.mp hws
    have h1 := g.line l hl
    have h2 := split_count l sg_bk (by decide)
    refine ⟨split_ne l sg_bk (by decide), by omega, fun w hw => ⟨chOk_split sg_bk (by decide) (chOk_split sg_nl (by decide) g.ok hl) hw, ?_⟩⟩
    have := split_small l sg_bk (by decide) hw
    omega
theorem Gl.tail {w : List Str} {ls : List (List Str)} (g : Gl (w :: ls)) : ∀ ws ∈ ls, ws ≠ [] ∧ ws.length ≤ 100000 ∧ ∀ w ∈ ws, chOk w ∧ w.length ≤ 640 := fun ws h => g.row ws (by simp [h])
theorem split_bk {l : Str} (h : l.length ≤ 16000000) (S : Store) : oSplit l (.str bk) S = .ok (wsD (Txt.split l bk)) S := by
  have : (bk.length == 0) = false := by decide +kernel
  unfold oSplit
  simp [this, h, wsD]
theorem split_nl {l : Str} (h : l.length ≤ 16000000) (S : Store) : oSplit l (.str nl) S = .ok (.lst ((Txt.split l nl).map D.str)) S := by
  have : (nl.length == 0) = false := by decide +kernel
  unfold oSplit
  simp [this, h]
theorem lines_lc {M T : Nat} {t : Str} (g : Gt M T t) (hM : M ≤ 640) (hT : T ≤ 90000) (i j : Nat) (z : Sl) (hz : z[i]? = some (.d (.str t))) (hj : j < z.length) (S : Store) :
    cLc (CL.iSeq (cSm oSplit (cVar i) (cK (.str ("\n" : Str))))) (gN j) tYesC (cSm oSplit (cVar j) (cK (.str (" " : Str)))) [j] z S = .ok (lsD (LS t)) S := by
  have h1 := g.len
  have it : CL.iSeq (cSm oSplit (cVar i) (cK (.str ("\n" : Str)))) z S = .ok ((Txt.split t nl).map D.str) S := by
    have e := split_nl (l := t) (by omega) S
    simp only [ev_iSeq, ev_sm, ev_var, hz, ev_slot, R.bind, ev_k]
    rw [show (Str.ofString "\n") = nl from rfl, e]
  let f : D → D := fun d => match d with | .str l => wsD (Txt.split l bk) | d => d
  have hc := split_count t sg_nl (by decide)
  have key := lc_map (gN j) tYesC (cSm oSplit (cVar j) (cK (.str (" " : Str)))) (wipeD z [j]) S f ((Txt.split t nl).map D.str) [] (by simp; omega) (fun d hd => by
    obtain ⟨l, hl, rfl⟩ := List.mem_map.mp hd
    refine ⟨_, rfl, rfl, ?_⟩
    have e : ((wipeD z [j]).set j (.d (.str l)))[j]? = some (.d (.str l)) := List.getElem?_set_self (by simp [wipeD]; omega)
    have e2 := split_bk (l := l) (by have := g.line l hl; omega) S
    simp only [ev_sm, ev_var, e, ev_slot, R.bind, ev_k]
    rw [show (Str.ofString " ") = bk from rfl, e2])
  have e2 : ((Txt.split t nl).map D.str).map f = (LS t).map wsD := by simp [f, LS]
  rw [e2, List.nil_append] at key
  exact lc_eq it key
/-! ### what the rows say -/
def quadOf : List Int → Option Quad
  | [a, b, c, d] => some ⟨a, b, c, d⟩
  | _ => none
def numsLen (n : Nat) (ws : List Str) : Bool := match numsOf ws with
  | some ns => decide (ns.length = n)
  | none => false
def rowOf : List Str → Option Quad
  | [] => none
  | w :: ws => if w == ("bridge" : Str) && numsLen 4 ws then (numsOf ws).bind quadOf else none
def rowsOf : Nat → List (List Str) → Nat ⊕ List Quad
  | _, [] => .inr []
  | k, ws :: r => match rowOf ws with
    | none => .inl k
    | some q => match rowsOf (k + 1) r with
      | .inl j => .inl j
      | .inr qs => .inr (q :: qs)
def countOf : List Str → Option Int
  | [] => none
  | w :: ws => if w == ("places" : Str) && numsLen 1 ws then (numsOf ws).bind List.head? else none
inductive Res where
  | text (k : Nat) | town (p : Str) (k : Int) | good (c : Int) (qs : List Quad)
def readR : List (List Str) → Res
  | [] => .text 0
  | ws :: r => match countOf ws with
    | none => .text 0
    | some c => match rowsOf 1 r with
      | .inl k => .text k
      | .inr qs => match badOf c qs with
        | none => .good c qs
        | some (p, k) => .town p k
def resD : Res → D
  | .text k => .tup [.str ("text" : Str), .int (k : Nat)]
  | .town p k => .tup [.str ("town" : Str), .str p, .int k]
  | .good c qs => .tup [.str ("good" : Str), .int c, tq qs]
/-! ### the tests of a row -/
theorem row_test {w : Str} {ws : List Str} (hw : chOk w) (S : Store) (x : Str) (hx : chOk x) (n : Nat) (eW eN : CE) (z : Sl) (hW : eW z S = .ok (.str w) S) (hN : eN z S = .ok (numsD ws) S) :
    CL.tOr (CL.tB (c2 (oEq true) eW (cK (.str x)))) (CL.tOr (CL.tB (c2 xIsN eN (cK .non))) (CL.tB (c2 (oEq true) (cApp bLen (aCons eN aNil)) (cK (.int (n : Nat)))))) z S = .ok (!(w == x && numsLen n ws)) S := by
  have e1 := eq_str true w x S (can_str hw) (can_str hx)
  simp only [ev_tOr, ev_tB, ev_c2, hW, ev_k, R.bind, e1, if_true]
  cases q : (w == x) with
  | false => simp
  | true =>
    simp only [Bool.not_true, Bool.false_eq_true, if_false, hN, Bool.true_and]
    unfold numsD numsLen
    cases q2 : numsOf ws with
    | none => simp [xIsN, oIsN, isNon]
    | some ns =>
      simp [xIsN, oIsN, isNon, hN, numsD, q2, bLen, itemsOf]
      by_cases h : ns.length = n
      · simp [h]
      · have : ¬ (ns.length : Int) = (n : Int) := by omega
        simp [h, this]
theorem numsOf_pos {ws : List Str} {ns : List Int} (h : numsOf ws = some ns) : ∀ n ∈ ns, 0 ≤ n := by
  unfold numsOf at h
  split at h
  · cases h
    intro n hn
    obtain ⟨w, _, rfl⟩ := List.mem_map.mp hn
    unfold wVal; omega
  · cases h
def Pos4 (q : Quad) : Prop := 0 ≤ q.q1 ∧ 0 ≤ q.q2 ∧ 0 ≤ q.q3 ∧ 0 ≤ q.q4
theorem rowOf_pos {ws : List Str} {q : Quad} (h : rowOf ws = some q) : Pos4 q := by
  cases ws with
  | nil => cases h
  | cons w r =>
    simp only [rowOf] at h
    split at h
    · cases e : numsOf r with
      | none => rw [e] at h; cases h
      | some ns =>
        rw [e] at h
        have hp := numsOf_pos e
        simp only [Option.bind] at h
        unfold quadOf at h
        split at h
        · cases h
          simp at hp
          exact ⟨hp.1, hp.2.1, hp.2.2.1, hp.2.2.2⟩
        · cases h
    · cases h
theorem rowsOf_pos : ∀ {ls : List (List Str)} {k : Nat} {qs : List Quad}, rowsOf k ls = .inr qs → ∀ q ∈ qs, Pos4 q
  | [], k, qs, h => by
    unfold rowsOf at h; cases h
    intro q hq; cases hq
  | ws :: r, k, qs, h => by
    unfold rowsOf at h
    cases e : rowOf ws with
    | none => rw [e] at h; cases h
    | some q =>
      rw [e] at h
      dsimp only at h
      cases e2 : rowsOf (k + 1) r with
      | inl j => rw [e2] at h; cases h
      | inr ps =>
        rw [e2] at h
        cases h
        intro p hp
        rcases List.mem_cons.mp hp with z | z
        · subst z; exact rowOf_pos e
        · exact rowsOf_pos e2 p z
theorem rowsOf_len : ∀ {ls : List (List Str)} {k : Nat} {qs : List Quad}, rowsOf k ls = .inr qs → qs.length = ls.length
  | [], k, qs, h => by unfold rowsOf at h; cases h; rfl
  | ws :: r, k, qs, h => by
    unfold rowsOf at h
    cases e : rowOf ws with
    | none => rw [e] at h; cases h
    | some q =>
      rw [e] at h
      dsimp only at h
      cases e2 : rowsOf (k + 1) r with
      | inl j => rw [e2] at h; cases h
      | inr ps => rw [e2] at h; cases h; simp [rowsOf_len e2]
theorem quad_of4 {ns : List Int} (h : ns.length = 4) : ∃ q, quadOf ns = some q ∧ D.tup (ns.map D.int) = qd q := by
  match ns, h with
  | [a, b, c, d], _ => exact ⟨⟨a, b, c, d⟩, rfl, rfl⟩
theorem chB : chOk ("bridge" : Str) := chOk_lit (by decide)
theorem chP : chOk ("places" : Str) := chOk_lit (by decide)
end Law
set_option Elab.async false
set_option linter.all false
set_option maxRecDepth 100000
set_option maxHeartbeats 4000000
/-! T5: the law's reader. -/
namespace Law
open PySem CL
variable [TheK]
theorem iRange2_nat {a b : CE} {z : Sl} {S : Store} {i j : Nat} (h1 : a z S = .ok (.int (i : Nat)) S) (h2 : b z S = .ok (.int (j : Nat)) S) (hi : i ≤ 1000000) (hj : j ≤ 1000000) : CL.iRange2 a b z S = .ok ((List.range' i (j - i)).map fun (k : Nat) => D.int (k : Int)) S := by
  have b1 : in62 (i : Int) = true := in62_of (Nat.lt_of_le_of_lt (by simpa using hi) (by decide +kernel : 1000000 < 2 ^ 62))
  have b2 : in62 (j : Int) = true := in62_of (Nat.lt_of_le_of_lt (by simpa using hj) (by decide +kernel : 1000000 < 2 ^ 62))
  unfold CL.iRange2
  rw [h1]
  simp only [R.bind, h2, b1, b2, Bool.and_self, if_true]
  have e : ((j : Int) - (i : Int)).toNat = j - i := by omega
  rw [e, List.range'_eq_map_range, List.map_map]
  congr 1
theorem iRange1_nat2 {c : CE} {z : Sl} {S S' : Store} {n : Nat} (h : c z S = .ok (.int n) S') (hn : n ≤ 1000000) : CL.iRange1 c z S = .ok ((List.range' 0 n).map fun (k : Nat) => D.int (k : Int)) S' := by
  have hb : in62 (n : Int) = true := in62_of (Nat.lt_of_le_of_lt (by simpa using hn) (by decide +kernel : 1000000 < 2 ^ 62))
  unfold CL.iRange1
  rw [h]
  simp only [CL.R.bind, hb, if_true, List.range_eq_range']
  simp
theorem set_same {S : Store} {p : Nat} {m : MO} (h : S[p]? = some m) : S.set p m = S := by
  obtain ⟨h1, h2⟩ := List.getElem?_eq_some_iff.mp h
  rw [← h2]; exact List.set_getElem_self h1
theorem at_ls {pre suf : List (List Str)} {ws : List Str} : L2.atI ((pre ++ ws :: suf).map wsD) (pre.length : Int) = some (wsD ws) := L2.atI_nat (by simp)
theorem at_w {w : Str} {r : List Str} : L2.atI ((w :: r).map D.str) 0 = some (.str w) := L2.atI_nat (j := 0) (by simp)
section
variable (a : Ad) (p : Nat) (x0 v2 v6 v7 v8 v9 v10 v11 v12 : SV)
theorem read_loop : ∀ (suf pre : List (List Str)) (acc : List Quad) (S : Store) (v4 v5 : SV), S[p]? = some (.lst (acc.map qd)) → Gl (pre ++ suf) → acc.length + suf.length ≤ 100000 →
    ∃ w4 w5 xs, loop (gN 4) (b_law_read_5 a) ((List.range' pre.length suf.length).map fun (k : Nat) => D.int (k : Int)) [x0, .d (lsD (pre ++ suf)), v2, .d (.ptr p), v4, v5, v6, v7, v8, v9, v10, v11, v12] S = match rowsOf pre.length suf with
      | .inl k => .rt (.tup [.str ("text" : Str), .int (k : Nat)]) (S.set p (.lst xs))
      | .inr qs => .nx [x0, .d (lsD (pre ++ suf)), v2, .d (.ptr p), w4, w5, v6, v7, v8, v9, v10, v11, v12] (S.set p (.lst ((acc ++ qs).map qd)))
  | [], pre, acc, S, v4, v5, hp, g, hl => ⟨v4, v5, [], by simp [rowsOf, set_same hp]⟩
  | ws :: suf, pre, acc, S, v4, v5, hp, g, hl => by
    obtain ⟨h1, h2, h3⟩ := g.row ws (by simp)
    obtain ⟨w, r, rfl⟩ : ∃ w r, ws = w :: r := by cases ws with | nil => exact absurd rfl h1 | cons w r => exact ⟨w, r, rfl⟩
    have hl' : acc.length + (suf.length + 1) ≤ 100000 := by simpa using hl
    have hat := at_ls (pre := pre) (suf := suf) (ws := w :: r)
    have hr : ∀ u ∈ r, chOk u ∧ u.length ≤ 640 := fun u hu => h3 u (by simp [hu])
    have hn := law_numbers a r hr (by simp at h2; omega) S
    have hp' : p < S.length := (List.getElem?_eq_some_iff.mp hp).1
    have ha : acc.length < 16777216 := by omega
    -- the numbers of the row
    have s1 : q_law_read_6 a [x0, .d (lsD (pre ++ (w :: r) :: suf)), v2, .d (.ptr p), .d (.int (pre.length : Nat)), v5, v6, v7, v8, v9, v10, v11, v12] S = .nx [x0, .d (lsD (pre ++ (w :: r) :: suf)), v2, .d (.ptr p), .d (.int (pre.length : Nat)), .d (numsD r), v6, v7, v8, v9, v10, v11, v12] S := by
      unfold q_law_read_6
      simp only [ev_set, ev_call, ev_cons, ev_cut, ev_c2, ev_var, ev_nil, ev_none, ev_some, ev_k, List.getElem?_cons_zero, List.getElem?_cons_succ, ev_slot, R.bind]
      simp only [oIx, itemsOf, lsD, hat, R.bind, wsD, oCut, List.map_cons, cut_tail, hn, ev_do]
      rfl
    have eW : ∀ (n5 : SV), c2 oIx (c2 oIx (cVar 1) (cVar 4)) (cK (.int 0)) [x0, .d (lsD (pre ++ (w :: r) :: suf)), v2, .d (.ptr p), .d (.int (pre.length : Nat)), n5, v6, v7, v8, v9, v10, v11, v12] S = .ok (.str w) S := fun n5 => by
      simp only [ev_c2, ev_var, List.getElem?_cons_zero, List.getElem?_cons_succ, ev_slot, R.bind, ev_k]
      simp only [oIx, itemsOf, lsD, hat, R.bind, wsD, at_w]
    have ht := row_test (w := w) (ws := r) (h3 w (by simp)).1 S ("bridge" : Str) chB 4 (c2 oIx (c2 oIx (cVar 1) (cVar 4)) (cK (.int 0))) (cVar 5) [x0, .d (lsD (pre ++ (w :: r) :: suf)), v2, .d (.ptr p), .d (.int (pre.length : Nat)), .d (numsD r), v6, v7, v8, v9, v10, v11, v12] (eW _) (by simp)
    have e0 : rowOf (w :: r) = if (w == ("bridge" : Str) && numsLen 4 r) = true then (numsOf r).bind quadOf else none := rfl
    simp only [List.length_cons, List.range'_succ, List.map_cons]
    cases q : (w == ("bridge" : Str) && numsLen 4 r) with
    | false =>
      rw [q] at ht e0
      refine ⟨v4, v5, acc.map qd, ?_⟩
      have s2 : q_law_read_7 a [x0, .d (lsD (pre ++ (w :: r) :: suf)), v2, .d (.ptr p), .d (.int (pre.length : Nat)), .d (numsD r), v6, v7, v8, v9, v10, v11, v12] S = .rt (.tup [.str ("text" : Str), .int (pre.length : Nat)]) S := by
        unfold q_law_read_7
        rw [ev_sif]
        rw [show ((4 : Nat) : Int) = 4 from rfl] at ht
        rw [ht]
        simp [q_law_read_8]
      have s3 : b_law_read_5 a [x0, .d (lsD (pre ++ (w :: r) :: suf)), v2, .d (.ptr p), .d (.int (pre.length : Nat)), v5, v6, v7, v8, v9, v10, v11, v12] S = .rt (.tup [.str ("text" : Str), .int (pre.length : Nat)]) S := by
        unfold b_law_read_5
        rw [seq_nx s1, seq_rt s2]
      rw [loop_rt rfl s3]
      have er : rowsOf pre.length ((w :: r) :: suf) = .inl pre.length := by simp [rowsOf, e0]
      rw [er, set_same hp]
    | true =>
      rw [q] at ht e0
      have q4 : numsLen 4 r = true := by rw [Bool.and_eq_true] at q; exact q.2
      unfold numsLen at q4
      cases en : numsOf r with
      | none => rw [en] at q4; cases q4
      | some ns =>
        rw [en] at q4
        simp only [decide_eq_true_eq] at q4
        obtain ⟨qu, hq1, hq2⟩ := quad_of4 q4
        have nD : numsD r = .lst (ns.map D.int) := by unfold numsD; rw [en]
        have s2 : q_law_read_7 a [x0, .d (lsD (pre ++ (w :: r) :: suf)), v2, .d (.ptr p), .d (.int (pre.length : Nat)), .d (numsD r), v6, v7, v8, v9, v10, v11, v12] S = .nx [x0, .d (lsD (pre ++ (w :: r) :: suf)), v2, .d (.ptr p), .d (.int (pre.length : Nat)), .d (numsD r), v6, v7, v8, v9, v10, v11, v12] S := by
          unfold q_law_read_7
          rw [ev_sif]
          rw [show ((4 : Nat) : Int) = 4 from rfl] at ht
          rw [ht]
          simp
        have s4 : q_law_read_9 a [x0, .d (lsD (pre ++ (w :: r) :: suf)), v2, .d (.ptr p), .d (.int (pre.length : Nat)), .d (numsD r), v6, v7, v8, v9, v10, v11, v12] S = .nx [x0, .d (lsD (pre ++ (w :: r) :: suf)), v2, .d (.ptr p), .d (.int (pre.length : Nat)), .d (numsD r), v6, v7, v8, v9, v10, v11, v12] (S.set p (.lst ((acc ++ [qu]).map qd))) := by
          unfold q_law_read_9
          simp [hp, nD, bTuple, ha, hq2]
        have s3 : b_law_read_5 a [x0, .d (lsD (pre ++ (w :: r) :: suf)), v2, .d (.ptr p), .d (.int (pre.length : Nat)), v5, v6, v7, v8, v9, v10, v11, v12] S = .nx [x0, .d (lsD (pre ++ (w :: r) :: suf)), v2, .d (.ptr p), .d (.int (pre.length : Nat)), .d (numsD r), v6, v7, v8, v9, v10, v11, v12] (S.set p (.lst ((acc ++ [qu]).map qd))) := by
          unfold b_law_read_5
          rw [seq_nx s1, seq_nx s2, s4]
        obtain ⟨w4, w5, xs, ih⟩ := read_loop suf (pre ++ [w :: r]) (acc ++ [qu]) (S.set p (.lst ((acc ++ [qu]).map qd))) (.d (.int (pre.length : Nat))) (.d (numsD r)) (List.getElem?_set_self hp') (by simpa using g) (by simp; omega)
        refine ⟨w4, w5, xs, ?_⟩
        rw [loop_cons rfl s3]
        have el : (pre ++ [w :: r]).length = pre.length + 1 := by simp
        rw [el] at ih
        simp only [List.append_assoc, List.cons_append, List.nil_append, List.set_set] at ih
        rw [ih]
        have e1 : rowOf (w :: r) = some qu := by rw [e0, en]; simpa using hq1
        cases eo : rowsOf (pre.length + 1) suf with
        | inl k => simp [rowsOf, e1, eo]
        | inr qs => simp [rowsOf, e1, eo]
end
/-! ### the places of the bridges -/
theorem isL_pos {c : Int} {q : Quad} (h : Pos4 q) : isL c q = (decide (q.q1 < c) && (decide (q.q2 < c) && (!decide (q.q1 = q.q2) && ((decide (1 ≤ q.q3) && decide (q.q3 ≤ 99)) && decide (q.q4 ≤ 1000000000000000000))))) := by
  obtain ⟨h1, h2, h3, h4⟩ := h
  unfold isL
  rw [Bool.eq_iff_iff]
  simp
  omega
section
variable (a : Ad) (p : Nat) (c : Int) (S : Store) (x0 x1 x2 x5 x12 : SV) (qs : List Quad) (hp : S[p]? = some (.lst (qs.map qd)))
include hp
theorem town_loop : ∀ (suf pre : List Quad) (v4 v7 v8 v9 v10 v11 : SV), qs = pre ++ suf → (∀ q ∈ suf, Pos4 q) →
    ∃ w4 w7 w8 w9 w10 w11, loop (gN 4) (b_law_read_13 a) ((List.range' pre.length suf.length).map fun (k : Nat) => D.int (k : Int)) [x0, x1, x2, .d (.ptr p), v4, x5, .d (.int c), v7, v8, v9, v10, v11, x12] S = match badFrom c pre.length suf with
      | some k => .rt (.tup [.str ("town" : Str), .str ("bridges" : Str), .int (k : Nat)]) S
      | none => .nx [x0, x1, x2, .d (.ptr p), w4, x5, .d (.int c), w7, w8, w9, w10, w11, x12] S
  | [], pre, v4, v7, v8, v9, v10, v11, h, hq => ⟨v4, v7, v8, v9, v10, v11, by simp [badFrom]⟩
  | q :: suf, pre, v4, v7, v8, v9, v10, v11, h, hq => by
    have hat : L2.atI (qs.map qd) (pre.length : Int) = some (qd q) := L2.atI_nat (by simp [h])
    have hpo := isL_pos (c := c) (hq q (by simp))
    have s1 : q_law_read_14 a [x0, x1, x2, .d (.ptr p), .d (.int (pre.length : Nat)), x5, .d (.int c), v7, v8, v9, v10, v11, x12] S = .nx [x0, x1, x2, .d (.ptr p), .d (.int (pre.length : Nat)), x5, .d (.int c), .d (.int q.q1), .d (.int q.q2), .d (.int q.q3), .d (.int q.q4), v11, x12] S := by
      unfold q_law_read_14
      simp [oIx, itemsOf, hp, hat, qd]
    have s2 : q_law_read_15 a [x0, x1, x2, .d (.ptr p), .d (.int (pre.length : Nat)), x5, .d (.int c), .d (.int q.q1), .d (.int q.q2), .d (.int q.q3), .d (.int q.q4), v11, x12] S = .nx [x0, x1, x2, .d (.ptr p), .d (.int (pre.length : Nat)), x5, .d (.int c), .d (.int q.q1), .d (.int q.q2), .d (.int q.q3), .d (.int q.q4), .d (.bl (isL c q)), x12] S := by
      unfold q_law_read_15
      rw [hpo]
      by_cases h1 : q.q1 < c <;> by_cases h2 : q.q2 < c <;> by_cases h3 : q.q1 = q.q2 <;> by_cases h4 : 1 ≤ q.q3 <;> by_cases h5 : q.q3 ≤ 99 <;> simp [oLt, oLe, oCmp, oPow, pow18, h1, h2, h3, h4, h5]
    simp only [List.length_cons, List.range'_succ, List.map_cons, badFrom]
    by_cases h24 : pre.length = 24
    · refine ⟨v4, v7, v8, v9, v10, v11, ?_⟩
      have h24' : (pre.length : Int) = 24 := by omega
      have s3 : q_law_read_16 a [x0, x1, x2, .d (.ptr p), .d (.int (pre.length : Nat)), x5, .d (.int c), .d (.int q.q1), .d (.int q.q2), .d (.int q.q3), .d (.int q.q4), .d (.bl (isL c q)), x12] S = .rt (.tup [.str ("town" : Str), .str ("bridges" : Str), .int (pre.length : Nat)]) S := by
        unfold q_law_read_16
        simp [h24', q_law_read_17]
      rw [loop_rt (sa := b_law_read_13 a) (g := gN 4) (d := .int (pre.length : Nat)) (z := [x0, x1, x2, .d (.ptr p), v4, x5, .d (.int c), v7, v8, v9, v10, v11, x12]) rfl ((seq_nx s1).trans ((seq_nx s2).trans s3))]
      simp [h24]
    · have h24' : ¬ (pre.length : Int) = 24 := by omega
      cases hl : isL c q with
      | false =>
        refine ⟨v4, v7, v8, v9, v10, v11, ?_⟩
        rw [hl] at s2
        have s3 : q_law_read_16 a [x0, x1, x2, .d (.ptr p), .d (.int (pre.length : Nat)), x5, .d (.int c), .d (.int q.q1), .d (.int q.q2), .d (.int q.q3), .d (.int q.q4), .d (.bl false), x12] S = .rt (.tup [.str ("town" : Str), .str ("bridges" : Str), .int (pre.length : Nat)]) S := by
          unfold q_law_read_16
          simp [h24', q_law_read_17]
        rw [loop_rt (sa := b_law_read_13 a) (g := gN 4) (d := .int (pre.length : Nat)) (z := [x0, x1, x2, .d (.ptr p), v4, x5, .d (.int c), v7, v8, v9, v10, v11, x12]) rfl ((seq_nx s1).trans ((seq_nx s2).trans s3))]
        simp
      | true =>
        rw [hl] at s2
        have s3 : q_law_read_16 a [x0, x1, x2, .d (.ptr p), .d (.int (pre.length : Nat)), x5, .d (.int c), .d (.int q.q1), .d (.int q.q2), .d (.int q.q3), .d (.int q.q4), .d (.bl true), x12] S = .nx [x0, x1, x2, .d (.ptr p), .d (.int (pre.length : Nat)), x5, .d (.int c), .d (.int q.q1), .d (.int q.q2), .d (.int q.q3), .d (.int q.q4), .d (.bl true), x12] S := by
          unfold q_law_read_16
          simp [h24']
        obtain ⟨w4, w7, w8, w9, w10, w11, ih⟩ := town_loop suf (pre ++ [q]) (.d (.int (pre.length : Nat))) (.d (.int q.q1)) (.d (.int q.q2)) (.d (.int q.q3)) (.d (.int q.q4)) (.d (.bl true)) (by simp [h]) (fun r hr => hq r (by simp [hr]))
        refine ⟨w4, w7, w8, w9, w10, w11, ?_⟩
        rw [loop_cons (sa := b_law_read_13 a) (g := gN 4) (d := .int (pre.length : Nat)) (z := [x0, x1, x2, .d (.ptr p), v4, x5, .d (.int c), v7, v8, v9, v10, v11, x12]) rfl ((seq_nx s1).trans ((seq_nx s2).trans s3))]
        have el : (pre ++ [q]).length = pre.length + 1 := by simp
        rw [el] at ih
        rw [ih]
        simp [h24]
end
end Law
set_option Elab.async false
set_option linter.all false
set_option maxRecDepth 100000
set_option maxHeartbeats 4000000
/-! T6: the law's reader, whole. -/
namespace Law
open PySem CL
variable [TheK]
theorem numsLen_one {r : List Str} (h : numsLen 1 r = true) : ∃ c, numsOf r = some [c] := by
  unfold numsLen at h
  cases e : numsOf r with
  | none => rw [e] at h; cases h
  | some ns =>
    rw [e] at h
    simp only [decide_eq_true_eq] at h
    match ns, h with
    | [c], _ => exact ⟨c, rfl⟩
theorem read_ok (a : Ad) {M T : Nat} {t : Str} (g : Gt M T t) (hM : M ≤ 640) (hT : T ≤ 90000) (S : Store) : ∃ m, g_law_read a [.str t] S = .ok (resD (readR (LS t))) (S ++ [m]) := by
  have gl := g.gl hM hT
  have hlc := lines_lc g hM hT 0 12 [.d (.str t), .u, .u, .u, .u, .u, .u, .u, .u, .u, .u, .u, .u] rfl (by simp) S
  generalize LS t = ls at gl hlc
  obtain ⟨ws, rest, rfl⟩ : ∃ ws rest, ls = ws :: rest := by cases ls with | nil => exact absurd rfl gl.ne | cons w r => exact ⟨w, r, rfl⟩
  obtain ⟨h1, h2, h3⟩ := gl.row ws (by simp)
  obtain ⟨w, r, rfl⟩ : ∃ w r, ws = w :: r := by cases ws with | nil => exact absurd rfl h1 | cons w r => exact ⟨w, r, rfl⟩
  have hr : ∀ u ∈ r, chOk u ∧ u.length ≤ 640 := fun u hu => h3 u (by simp [hu])
  have hn := law_numbers a r hr (by simp at h2; omega) S
  have at0 : L2.atI (((w :: r) :: rest).map wsD) 0 = some (wsD (w :: r)) := L2.atI_nat (j := 0) (by simp)
  have hnum := gl.num
  have s1 : q_law_read_1 a [.d (.str t), .u, .u, .u, .u, .u, .u, .u, .u, .u, .u, .u, .u] S = .nx [.d (.str t), .d (lsD ((w :: r) :: rest)), .u, .u, .u, .u, .u, .u, .u, .u, .u, .u, .u] S := by
    unfold q_law_read_1
    rw [ev_set, hlc]; rfl
  have s2 : q_law_read_2 a [.d (.str t), .d (lsD ((w :: r) :: rest)), .u, .u, .u, .u, .u, .u, .u, .u, .u, .u, .u] S = .nx [.d (.str t), .d (lsD ((w :: r) :: rest)), .d (numsD r), .d (.ptr S.length), .u, .u, .u, .u, .u, .u, .u, .u, .u] (S ++ [.lst []]) := by
    unfold q_law_read_2
    simp only [ev_par, ev_call, ev_cons, ev_cut, ev_c2, ev_var, ev_nil, ev_none, ev_some, ev_k, List.getElem?_cons_zero, List.getElem?_cons_succ, ev_slot, R.bind, ev_toP, ev_lst]
    simp only [oIx, itemsOf, lsD, at0, R.bind, wsD, oCut, List.map_cons, cut_tail, hn, ev_do]
    simp [cut_tail, hn]
  have ht := row_test (w := w) (ws := r) (h3 w (by simp)).1 (S ++ [.lst []]) ("places" : Str) chP 1 (c2 oIx (c2 oIx (cVar 1) (cK (.int 0))) (cK (.int 0))) (cVar 2) [.d (.str t), .d (lsD ((w :: r) :: rest)), .d (numsD r), .d (.ptr S.length), .u, .u, .u, .u, .u, .u, .u, .u, .u] (by
    simp only [ev_c2, ev_var, List.getElem?_cons_zero, List.getElem?_cons_succ, ev_slot, R.bind, ev_k]
    simp only [oIx, itemsOf, lsD, at0, R.bind, wsD, at_w]) (by simp)
  rw [show ((1 : Nat) : Int) = 1 from rfl] at ht
  have ec : countOf (w :: r) = if (w == ("places" : Str) && numsLen 1 r) = true then (numsOf r).bind List.head? else none := rfl
  cases q : (w == ("places" : Str) && numsLen 1 r) with
  | false =>
    rw [q] at ht ec
    refine ⟨.lst [], ?_⟩
    have er : readR ((w :: r) :: rest) = .text 0 := by simp [readR, ec]
    rw [er]
    refine run_rt ?_
    show c_law_read a [.d (.str t), .u, .u, .u, .u, .u, .u, .u, .u, .u, .u, .u, .u] S = _
    unfold c_law_read
    rw [seq_nx s1, seq_nx s2, seq_rt (S' := S ++ [.lst []]) (d := resD (.text 0))]
    unfold q_law_read_3
    rw [ev_sif, ht]
    simp [q_law_read_4, resD]
  | true =>
    rw [q] at ht ec
    obtain ⟨c, en⟩ := numsLen_one (Bool.and_eq_true_iff.mp q).2
    have nD : numsD r = .lst [.int c] := by unfold numsD; rw [en]; rfl
    rw [en] at ec
    have ec' : countOf (w :: r) = some c := by simpa using ec
    have s3 : q_law_read_3 a [.d (.str t), .d (lsD ((w :: r) :: rest)), .d (numsD r), .d (.ptr S.length), .u, .u, .u, .u, .u, .u, .u, .u, .u] (S ++ [.lst []]) = .nx [.d (.str t), .d (lsD ((w :: r) :: rest)), .d (numsD r), .d (.ptr S.length), .u, .u, .u, .u, .u, .u, .u, .u, .u] (S ++ [.lst []]) := by
      unfold q_law_read_3
      rw [ev_sif, ht]
      simp
    obtain ⟨w4, w5, xs, hL⟩ := read_loop a S.length (.d (.str t)) (.d (numsD r)) .u .u .u .u .u .u .u rest [w :: r] [] (S ++ [.lst []]) .u .u (by simp) (by simpa using gl) (by simp at hnum ⊢; omega)
    have src : CL.iRange2 (cK (.int 1)) (cApp bLen (aCons (cVar 1) aNil)) [.d (.str t), .d (lsD ((w :: r) :: rest)), .d (numsD r), .d (.ptr S.length), .u, .u, .u, .u, .u, .u, .u, .u, .u] (S ++ [.lst []]) = .ok ((List.range' 1 rest.length).map fun (k : Nat) => D.int (k : Int)) (S ++ [.lst []]) := by
      have := iRange2_nat (a := cK (.int 1)) (b := cApp bLen (aCons (cVar 1) aNil)) (i := 1) (j := rest.length + 1) (z := [.d (.str t), .d (lsD ((w :: r) :: rest)), .d (numsD r), .d (.ptr S.length), .u, .u, .u, .u, .u, .u, .u, .u, .u]) (S := S ++ [.lst []]) (by simp) (by simp [bLen, itemsOf, lsD]) (by decide) (by simp at hnum; omega)
      simpa using this
    have s5 : q_law_read_5 a [.d (.str t), .d (lsD ((w :: r) :: rest)), .d (numsD r), .d (.ptr S.length), .u, .u, .u, .u, .u, .u, .u, .u, .u] (S ++ [.lst []]) = loop (gN 4) (b_law_read_5 a) ((List.range' 1 rest.length).map fun (k : Nat) => D.int (k : Int)) [.d (.str t), .d (lsD ((w :: r) :: rest)), .d (numsD r), .d (.ptr S.length), .u, .u, .u, .u, .u, .u, .u, .u, .u] (S ++ [.lst []]) := by
      unfold q_law_read_5
      rw [ev_for, src]
      rfl
    rw [show ([w :: r] : List (List Str)).length = 1 from rfl, List.singleton_append] at hL
    rw [hL] at s5
    have eset : ∀ ys : List D, (S ++ [MO.lst []]).set S.length (.lst ys) = S ++ [.lst ys] := fun ys => by simp
    cases eo : rowsOf 1 rest with
    | inl k =>
      rw [eo] at s5
      dsimp only at s5
      rw [eset] at s5
      refine ⟨.lst xs, ?_⟩
      have er : readR ((w :: r) :: rest) = .text k := by simp [readR, ec', eo]
      rw [er]
      refine run_rt ?_
      show c_law_read a [.d (.str t), .u, .u, .u, .u, .u, .u, .u, .u, .u, .u, .u, .u] S = _
      unfold c_law_read
      rw [seq_nx s1, seq_nx s2, seq_nx s3, seq_rt s5]
      rfl
    | inr qs =>
      rw [eo] at s5
      dsimp only at s5
      rw [eset, List.nil_append] at s5
      refine ⟨.lst (qs.map qd), ?_⟩
      have hpos := rowsOf_pos eo
      have hlen := rowsOf_len eo
      have hp : (S ++ [MO.lst (qs.map qd)])[S.length]? = some (.lst (qs.map qd)) := by simp
      have s10 : q_law_read_10 a [.d (.str t), .d (lsD ((w :: r) :: rest)), .d (numsD r), .d (.ptr S.length), w4, w5, .u, .u, .u, .u, .u, .u, .u] (S ++ [.lst (qs.map qd)]) = .nx [.d (.str t), .d (lsD ((w :: r) :: rest)), .d (numsD r), .d (.ptr S.length), w4, w5, .d (.int c), .u, .u, .u, .u, .u, .u] (S ++ [.lst (qs.map qd)]) := by
        unfold q_law_read_10
        simp [nD, oIx, itemsOf]
      by_cases hc : 1 ≤ c ∧ c ≤ 12
      · have s11 : q_law_read_11 a [.d (.str t), .d (lsD ((w :: r) :: rest)), .d (numsD r), .d (.ptr S.length), w4, w5, .d (.int c), .u, .u, .u, .u, .u, .u] (S ++ [.lst (qs.map qd)]) = .nx [.d (.str t), .d (lsD ((w :: r) :: rest)), .d (numsD r), .d (.ptr S.length), w4, w5, .d (.int c), .u, .u, .u, .u, .u, .u] (S ++ [.lst (qs.map qd)]) := by
          unfold q_law_read_11
          simp [oLe, oCmp, hc]
        obtain ⟨y4, y7, y8, y9, y10, y11, hT2⟩ := town_loop a S.length c (S ++ [.lst (qs.map qd)]) (.d (.str t)) (.d (lsD ((w :: r) :: rest))) (.d (numsD r)) w5 .u qs hp qs [] w4 .u .u .u .u .u rfl hpos
        have src2 : CL.iRange1 (cApp bLen (aCons (cVar 3) aNil)) [.d (.str t), .d (lsD ((w :: r) :: rest)), .d (numsD r), .d (.ptr S.length), w4, w5, .d (.int c), .u, .u, .u, .u, .u, .u] (S ++ [.lst (qs.map qd)]) = .ok ((List.range' 0 qs.length).map fun (k : Nat) => D.int (k : Int)) (S ++ [.lst (qs.map qd)]) := by
          refine iRange1_nat2 (n := qs.length) ?_ (by simp at hnum; omega)
          simp [bLen, itemsOf]
        have s13 : q_law_read_13 a [.d (.str t), .d (lsD ((w :: r) :: rest)), .d (numsD r), .d (.ptr S.length), w4, w5, .d (.int c), .u, .u, .u, .u, .u, .u] (S ++ [.lst (qs.map qd)]) = loop (gN 4) (b_law_read_13 a) ((List.range' 0 qs.length).map fun (k : Nat) => D.int (k : Int)) [.d (.str t), .d (lsD ((w :: r) :: rest)), .d (numsD r), .d (.ptr S.length), w4, w5, .d (.int c), .u, .u, .u, .u, .u, .u] (S ++ [.lst (qs.map qd)]) := by
          unfold q_law_read_13
          rw [ev_for, src2]
          rfl
        rw [show (0 : Nat) = ([] : List Quad).length from rfl, hT2] at s13
        cases eb : badFrom c 0 qs with
        | some k =>
          have e0 : badOf c qs = some (("bridges" : Str), (k : Int)) := by unfold badOf; rw [if_pos hc, eb]; rfl
          have er : readR ((w :: r) :: rest) = .town ("bridges" : Str) (k : Nat) := by simp [readR, ec', eo, e0]
          rw [er]
          simp only [List.length_nil, eb] at s13
          refine run_rt ?_
          show c_law_read a [.d (.str t), .u, .u, .u, .u, .u, .u, .u, .u, .u, .u, .u, .u] S = _
          unfold c_law_read
          rw [seq_nx s1, seq_nx s2, seq_nx s3, seq_nx s5, seq_nx s10, seq_nx s11, seq_rt s13]
          rfl
        | none =>
          have e0 : badOf c qs = none := by unfold badOf; rw [if_pos hc, eb]; rfl
          have er : readR ((w :: r) :: rest) = .good c qs := by simp [readR, ec', eo, e0]
          rw [er]
          simp only [List.length_nil, eb] at s13
          refine run_rt ?_
          show c_law_read a [.d (.str t), .u, .u, .u, .u, .u, .u, .u, .u, .u, .u, .u, .u] S = _
          unfold c_law_read
          rw [seq_nx s1, seq_nx s2, seq_nx s3, seq_nx s5, seq_nx s10, seq_nx s11, seq_nx s13]
          unfold q_law_read_18
          simp [bTuple, resD, tq]
      · have hc2 : ¬ (1 ≤ c) ∨ ¬ (c ≤ 12) := by omega
        have e0 : badOf c qs = some (("count" : Str), 0) := by unfold badOf; rw [if_neg hc]
        have er : readR ((w :: r) :: rest) = .town ("count" : Str) 0 := by simp [readR, ec', eo, e0]
        rw [er]
        have s11 : q_law_read_11 a [.d (.str t), .d (lsD ((w :: r) :: rest)), .d (numsD r), .d (.ptr S.length), w4, w5, .d (.int c), .u, .u, .u, .u, .u, .u] (S ++ [.lst (qs.map qd)]) = .rt (resD (.town ("count" : Str) 0)) (S ++ [.lst (qs.map qd)]) := by
          unfold q_law_read_11
          by_cases h1c : 1 ≤ c
          · simp [oLe, oCmp, h1c, show ¬ c ≤ 12 by omega, q_law_read_12, resD]
          · simp [oLe, oCmp, h1c, q_law_read_12, resD]
        refine run_rt ?_
        show c_law_read a [.d (.str t), .u, .u, .u, .u, .u, .u, .u, .u, .u, .u, .u, .u] S = _
        unfold c_law_read
        rw [seq_nx s1, seq_nx s2, seq_nx s3, seq_nx s5, seq_nx s10, seq_rt s11]
end Law
set_option Elab.async false
set_option linter.all false
set_option maxRecDepth 100000
set_option maxHeartbeats 4000000
/-! T7: the program's reader. -/
namespace Law
open PySem CL
variable [TheK]
@[simp] theorem ev_makeL {i : Nat} {C : Addr} {g : G} {ca : CA} {z : Sl} {S : Store} : cMakeL i C g ca z S = match z[i]? with | some (.d (.ref c)) => if c = C then cMake C g ca z S else .bad | _ => .bad := rfl
/-- what InvalidText is told -/
def exR (a : Ad) (k : Int) : Exn := ⟨a.C_InvalidText, [("row" : Str)], [.int k]⟩
section
variable (a : Ad) (S : Store) (x0 x1 x2 x3 x4 v9 : SV)
theorem parse_loop : ∀ (suf : List (List Str)) (k : Nat) (acc : List Quad) (v6 v7 v8 : SV), (∀ ws ∈ suf, ws ≠ [] ∧ ws.length ≤ 100000 ∧ ∀ w ∈ ws, chOk w ∧ w.length ≤ 640) → acc.length + suf.length ≤ 100000 →
    ∃ w5 w6 w7 w8, loop (CL.gTup 2 (CL.gCons (gN 6) (CL.gCons (gN 7) CL.gNil))) (b_Town_parse_6 a) (((suf.map wsD).zipIdx k).map fun p => D.tup [.int (p.2 : Nat), p.1]) [x0, x1, x2, x3, x4, .l (acc.map qd), v6, v7, v8, v9] S = match rowsOf (k + 1) suf with
      | .inl j => .exc (exR a (j : Nat)) [x0, x1, x2, x3, x4, w5, w6, w7, w8, v9] S
      | .inr qs => .nx [x0, x1, x2, x3, x4, .l ((acc ++ qs).map qd), w6, w7, w8, v9] S
  | [], k, acc, v6, v7, v8, g, hl => ⟨v6, v6, v7, v8, by simp [rowsOf]⟩
  | ws :: suf, k, acc, v6, v7, v8, g, hl => by
    obtain ⟨h1, h2, h3⟩ := g ws (by simp)
    obtain ⟨w, r, rfl⟩ : ∃ w r, ws = w :: r := by cases ws with | nil => exact absurd rfl h1 | cons w r => exact ⟨w, r, rfl⟩
    have hl' : acc.length + (suf.length + 1) ≤ 100000 := by simpa using hl
    have hr : ∀ u ∈ r, chOk u ∧ u.length ≤ 640 := fun u hu => h3 u (by simp [hu])
    have hn := prog_numbers a r hr (by simp at h2; omega) S
    have ha : acc.length < 16777216 := by omega
    have g1 : (CL.gTup 2 (CL.gCons (gN 6) (CL.gCons (gN 7) CL.gNil))) (D.tup [.int (k : Nat), wsD (w :: r)]) [x0, x1, x2, x3, x4, .l (acc.map qd), v6, v7, v8, v9] = some [x0, x1, x2, x3, x4, .l (acc.map qd), .d (.int (k : Nat)), .d (wsD (w :: r)), v8, v9] := rfl
    have s1 : q_Town_parse_7 a [x0, x1, x2, x3, x4, .l (acc.map qd), .d (.int (k : Nat)), .d (wsD (w :: r)), v8, v9] S = .nx [x0, x1, x2, x3, x4, .l (acc.map qd), .d (.int (k : Nat)), .d (wsD (w :: r)), .d (numsD r), v9] S := by
      unfold q_Town_parse_7
      simp [wsD, oCut, cut_tail, hn]
    have ht := row_test (w := w) (ws := r) (h3 w (by simp)).1 S ("bridge" : Str) chB 4 (c2 oIx (cVar 7) (cK (.int 0))) (cVar 8) [x0, x1, x2, x3, x4, .l (acc.map qd), .d (.int (k : Nat)), .d (wsD (w :: r)), .d (numsD r), v9] (by simp [oIx, itemsOf, wsD]) (by simp)
    rw [show ((4 : Nat) : Int) = 4 from rfl] at ht
    have e0 : rowOf (w :: r) = if (w == ("bridge" : Str) && numsLen 4 r) = true then (numsOf r).bind quadOf else none := rfl
    simp only [List.map_cons, List.zipIdx_cons]
    cases q : (w == ("bridge" : Str) && numsLen 4 r) with
    | false =>
      rw [q] at ht e0
      refine ⟨.l (acc.map qd), .d (.int (k : Nat)), .d (wsD (w :: r)), .d (numsD r), ?_⟩
      have s2 : q_Town_parse_8 a [x0, x1, x2, x3, x4, .l (acc.map qd), .d (.int (k : Nat)), .d (wsD (w :: r)), .d (numsD r), v9] S = .exc (exR a ((k + 1 : Nat) : Int)) [x0, x1, x2, x3, x4, .l (acc.map qd), .d (.int (k : Nat)), .d (wsD (w :: r)), .d (numsD r), v9] S := by
        unfold q_Town_parse_8
        rw [ev_sif, ht]
        simp [q_Town_parse_9, oAdd, exR]
      have er : rowsOf (k + 1) ((w :: r) :: suf) = .inl (k + 1) := by simp [rowsOf, e0]
      rw [loop_exc (sa := b_Town_parse_6 a) g1 ((seq_nx s1).trans (seq_exc s2)), er]
    | true =>
      rw [q] at ht e0
      have q4 : numsLen 4 r = true := by rw [Bool.and_eq_true] at q; exact q.2
      unfold numsLen at q4
      cases en : numsOf r with
      | none => rw [en] at q4; cases q4
      | some ns =>
        rw [en] at q4
        simp only [decide_eq_true_eq] at q4
        obtain ⟨qu, hq1, hq2⟩ := quad_of4 q4
        have nD : numsD r = .lst (ns.map D.int) := by unfold numsD; rw [en]
        have s2 : q_Town_parse_8 a [x0, x1, x2, x3, x4, .l (acc.map qd), .d (.int (k : Nat)), .d (wsD (w :: r)), .d (numsD r), v9] S = .nx [x0, x1, x2, x3, x4, .l (acc.map qd), .d (.int (k : Nat)), .d (wsD (w :: r)), .d (numsD r), v9] S := by
          unfold q_Town_parse_8
          rw [ev_sif, ht]
          simp
        have s3 : q_Town_parse_10 a [x0, x1, x2, x3, x4, .l (acc.map qd), .d (.int (k : Nat)), .d (wsD (w :: r)), .d (numsD r), v9] S = .nx [x0, x1, x2, x3, x4, .l ((acc ++ [qu]).map qd), .d (.int (k : Nat)), .d (wsD (w :: r)), .d (numsD r), v9] S := by
          unfold q_Town_parse_10
          simp [nD, bTuple, ha, hq2]
        obtain ⟨w5, w6, w7, w8, ih⟩ := parse_loop suf (k + 1) (acc ++ [qu]) (.d (.int (k : Nat))) (.d (wsD (w :: r))) (.d (numsD r)) (fun ws h => g ws (by simp [h])) (by simp; omega)
        refine ⟨w5, w6, w7, w8, ?_⟩
        rw [loop_cons (sa := b_Town_parse_6 a) g1 ((seq_nx s1).trans ((seq_nx s2).trans s3)), ih]
        have e1 : rowOf (w :: r) = some qu := by rw [e0, en]; simpa using hq1
        cases eo : rowsOf (k + 1 + 1) suf with
        | inl j => simp [rowsOf, e1, eo]
        | inr qs => simp [rowsOf, e1, eo]
end
def parseR (a : Ad) (S : Store) : Res → R D
  | .text k => .exc (exR a (k : Nat)) S
  | .town p k => .exc (exT a p k) (S ++ [.ins a.C_Town [] []])
  | .good c qs => .ok (.ptr S.length) (S ++ [.ins a.C_Town [("size" : Str), ("links" : Str)] [.int c, tq qs]])
theorem parse_ok (a : Ad) {M T : Nat} {t : Str} (g : Gt M T t) (hM : M ≤ 640) (hT : T ≤ 90000) (S : Store) : g_Town_parse a [.ref a.C_Town, .str t] S = parseR a S (readR (LS t)) := by
  have gl := g.gl hM hT
  have hlc := lines_lc g hM hT 1 9 [.d (.ref a.C_Town), .d (.str t), .u, .u, .u, .u, .u, .u, .u, .u] rfl (by simp) S
  generalize LS t = ls at gl hlc
  obtain ⟨ws, rest, rfl⟩ : ∃ ws rest, ls = ws :: rest := by cases ls with | nil => exact absurd rfl gl.ne | cons w r => exact ⟨w, r, rfl⟩
  obtain ⟨h1, h2, h3⟩ := gl.row ws (by simp)
  obtain ⟨w, r, rfl⟩ : ∃ w r, ws = w :: r := by cases ws with | nil => exact absurd rfl h1 | cons w r => exact ⟨w, r, rfl⟩
  have hr : ∀ u ∈ r, chOk u ∧ u.length ≤ 640 := fun u hu => h3 u (by simp [hu])
  have hn := prog_numbers a r hr (by simp at h2; omega) S
  have hnum := gl.num
  have s1 : q_Town_parse_1 a [.d (.ref a.C_Town), .d (.str t), .u, .u, .u, .u, .u, .u, .u, .u] S = .nx [.d (.ref a.C_Town), .d (.str t), .d (wsD (w :: r)), .d (.lst (rest.map wsD)), .u, .u, .u, .u, .u, .u] S := by
    unfold q_Town_parse_1
    rw [ev_star, hlc]; rfl
  have s2 : q_Town_parse_2 a [.d (.ref a.C_Town), .d (.str t), .d (wsD (w :: r)), .d (.lst (rest.map wsD)), .u, .u, .u, .u, .u, .u] S = .nx [.d (.ref a.C_Town), .d (.str t), .d (wsD (w :: r)), .d (.lst (rest.map wsD)), .d (numsD r), .u, .u, .u, .u, .u] S := by
    unfold q_Town_parse_2
    simp [wsD, oCut, cut_tail, hn]
  have ht := row_test (w := w) (ws := r) (h3 w (by simp)).1 S ("places" : Str) chP 1 (c2 oIx (cVar 2) (cK (.int 0))) (cVar 4) [.d (.ref a.C_Town), .d (.str t), .d (wsD (w :: r)), .d (.lst (rest.map wsD)), .d (numsD r), .u, .u, .u, .u, .u] (by simp [oIx, itemsOf, wsD]) (by simp)
  rw [show ((1 : Nat) : Int) = 1 from rfl] at ht
  have ec : countOf (w :: r) = if (w == ("places" : Str) && numsLen 1 r) = true then (numsOf r).bind List.head? else none := rfl
  have st : g_Town_parse a [.ref a.C_Town, .str t] S = run 10 (c_Town_parse a) [.ref a.C_Town, .str t] S := rfl
  cases q : (w == ("places" : Str) && numsLen 1 r) with
  | false =>
    rw [q] at ht ec
    have er : readR ((w :: r) :: rest) = .text 0 := by simp [readR, ec]
    rw [er]
    refine run_exc (z' := [.d (.ref a.C_Town), .d (.str t), .d (wsD (w :: r)), .d (.lst (rest.map wsD)), .d (numsD r), .u, .u, .u, .u, .u]) ?_
    show c_Town_parse a [.d (.ref a.C_Town), .d (.str t), .u, .u, .u, .u, .u, .u, .u, .u] S = _
    unfold c_Town_parse
    rw [seq_nx s1, seq_nx s2, seq_exc]
    unfold q_Town_parse_3
    rw [ev_sif, ht]
    simp [q_Town_parse_4, exR]
  | true =>
    rw [q] at ht ec
    obtain ⟨c, en⟩ := numsLen_one (Bool.and_eq_true_iff.mp q).2
    have nD : numsD r = .lst [.int c] := by unfold numsD; rw [en]; rfl
    rw [en] at ec
    have ec' : countOf (w :: r) = some c := by simpa using ec
    have s3 : q_Town_parse_3 a [.d (.ref a.C_Town), .d (.str t), .d (wsD (w :: r)), .d (.lst (rest.map wsD)), .d (numsD r), .u, .u, .u, .u, .u] S = .nx [.d (.ref a.C_Town), .d (.str t), .d (wsD (w :: r)), .d (.lst (rest.map wsD)), .d (numsD r), .u, .u, .u, .u, .u] S := by
      unfold q_Town_parse_3
      rw [ev_sif, ht]
      simp
    have s4 : sSetL 5 (cLst aNil) [.d (.ref a.C_Town), .d (.str t), .d (wsD (w :: r)), .d (.lst (rest.map wsD)), .d (numsD r), .u, .u, .u, .u, .u] S = .nx [.d (.ref a.C_Town), .d (.str t), .d (wsD (w :: r)), .d (.lst (rest.map wsD)), .d (numsD r), .l (([] : List Quad).map qd), .u, .u, .u, .u] S := by simp
    obtain ⟨w5, w6, w7, w8, hL⟩ := parse_loop a S (.d (.ref a.C_Town)) (.d (.str t)) (.d (wsD (w :: r))) (.d (.lst (rest.map wsD))) (.d (numsD r)) .u rest 0 [] .u .u .u (fun ws h => gl.row ws (by simp [h])) (by simp at hnum ⊢; omega)
    have s6 : q_Town_parse_6 a [.d (.ref a.C_Town), .d (.str t), .d (wsD (w :: r)), .d (.lst (rest.map wsD)), .d (numsD r), .l (([] : List Quad).map qd), .u, .u, .u, .u] S = loop (CL.gTup 2 (CL.gCons (gN 6) (CL.gCons (gN 7) CL.gNil))) (b_Town_parse_6 a) (((rest.map wsD).zipIdx 0).map fun p => D.tup [.int (p.2 : Nat), p.1]) [.d (.ref a.C_Town), .d (.str t), .d (wsD (w :: r)), .d (.lst (rest.map wsD)), .d (numsD r), .l (([] : List Quad).map qd), .u, .u, .u, .u] S := by
      unfold q_Town_parse_6
      rw [ev_for]
      rfl
    rw [hL] at s6
    rw [Nat.zero_add] at s6
    cases eo : rowsOf 1 rest with
    | inl k =>
      rw [eo] at s6
      have er : readR ((w :: r) :: rest) = .text k := by simp [readR, ec', eo]
      rw [er]
      refine run_exc (z' := [.d (.ref a.C_Town), .d (.str t), .d (wsD (w :: r)), .d (.lst (rest.map wsD)), .d (numsD r), w5, w6, w7, w8, .u]) ?_
      show c_Town_parse a [.d (.ref a.C_Town), .d (.str t), .u, .u, .u, .u, .u, .u, .u, .u] S = _
      unfold c_Town_parse
      rw [seq_nx s1, seq_nx s2, seq_nx s3, seq_nx s4, seq_exc s6]
    | inr qs =>
      rw [eo] at s6
      dsimp only at s6
      rw [List.nil_append] at s6
      have hi : (S ++ [.ins a.C_Town [] []])[S.length]? = some (.ins a.C_Town [] []) := by simp
      have ei := init_ok a c qs (S ++ [.ins a.C_Town [] []]) S.length hi
      cases eb : badOf c qs with
      | some pk =>
        obtain ⟨p, k⟩ := pk
        rw [eb] at ei
        have er : readR ((w :: r) :: rest) = .town p k := by simp [readR, ec', eo, eb]
        rw [er]
        have s7 : q_Town_parse_11 a [.d (.ref a.C_Town), .d (.str t), .d (wsD (w :: r)), .d (.lst (rest.map wsD)), .d (numsD r), .l (qs.map qd), w6, w7, w8, .u] S = .exc (exT a p k) [.d (.ref a.C_Town), .d (.str t), .d (wsD (w :: r)), .d (.lst (rest.map wsD)), .d (numsD r), .d (.lst (qs.map qd)), w6, w7, w8, .u] (S ++ [.ins a.C_Town [] []]) := by
          unfold q_Town_parse_11
          simp [nD, oIx, itemsOf, bTuple]
          simp [tq] at ei
          simp [ei]
        refine run_exc (z' := [.d (.ref a.C_Town), .d (.str t), .d (wsD (w :: r)), .d (.lst (rest.map wsD)), .d (numsD r), .d (.lst (qs.map qd)), w6, w7, w8, .u]) ?_
        show c_Town_parse a [.d (.ref a.C_Town), .d (.str t), .u, .u, .u, .u, .u, .u, .u, .u] S = _
        unfold c_Town_parse
        rw [seq_nx s1, seq_nx s2, seq_nx s3, seq_nx s4, seq_nx s6, s7]
      | none =>
        rw [eb] at ei
        have er : readR ((w :: r) :: rest) = .good c qs := by simp [readR, ec', eo, eb]
        rw [er]
        have s7 : q_Town_parse_11 a [.d (.ref a.C_Town), .d (.str t), .d (wsD (w :: r)), .d (.lst (rest.map wsD)), .d (numsD r), .l (qs.map qd), w6, w7, w8, .u] S = .rt (.ptr S.length) (S ++ [.ins a.C_Town [("size" : Str), ("links" : Str)] [.int c, tq qs]]) := by
          unfold q_Town_parse_11
          simp [nD, oIx, itemsOf, bTuple]
          simp [tq] at ei
          simp [ei, tq]
        refine run_rt ?_
        show c_Town_parse a [.d (.ref a.C_Town), .d (.str t), .u, .u, .u, .u, .u, .u, .u, .u] S = _
        unfold c_Town_parse
        rw [seq_nx s1, seq_nx s2, seq_nx s3, seq_nx s4, seq_nx s6, s7]
end Law
set_option Elab.async false
set_option linter.all false
set_option maxRecDepth 100000
set_option maxHeartbeats 4000000
/-! T8: a town's text. -/
namespace Law
open PySem CL
variable [TheK]
/-- str(i) -/
def sI (i : Int) : Str := Str.ofString (toString i)
theorem sg_sI {i : Int} (h : 0 ≤ i) : sg (sI i) = TL.numL i.toNat := by
  obtain ⟨n, rfl⟩ := Int.eq_ofNat_of_zero_le h
  exact TL.tl_num n
theorem sI_len {i : Int} (h : 0 ≤ i) (h2 : i ≤ 1000000000000000000) : (sI i).length ≤ 19 := by
  rw [len_sg, sg_sI h]
  exact TL.numL_len (by decide) (by omega)
theorem str_int {i : Int} (h : 0 ≤ i) (h2 : i ≤ 1000000000000000000) (S : Store) : bStrI [.int i] S = .ok (.str (sI i)) S := by
  have : i.natAbs.log2 < 1920 := by
    by_cases h0 : i.natAbs = 0
    · rw [h0]; decide +kernel
    · have : i.natAbs < 2 ^ 1920 := Nat.lt_of_le_of_lt (by omega : i.natAbs ≤ 1000000000000000000) (by decide +kernel)
      exact (Nat.log2_lt h0).mpr this
  simp only [bStrI, if_pos this]
  rfl
theorem numL_head : ∀ n : Nat, 1 ≤ n → (TL.numL n)[0]? ≠ some 48 := fun n => by
  induction n using Nat.strongRecOn with
  | _ n ih =>
    intro h
    by_cases h10 : n < 10
    · rw [TL.numL_lt h10]
      simp; omega
    · have := ih (n / 10) (by omega) (by omega)
      rw [TL.numL_step (by omega)]
      have hl : 0 < (TL.numL (n / 10)).length := List.length_pos_iff.mpr (TL.numL_ne _)
      rw [List.getElem?_append_left hl]
      exact this
theorem wOk_sI {i : Int} (h : 0 ≤ i) : wOk (sI i) = true := by
  unfold wOk
  rw [sg_sI h]
  have h1 : (TL.numL i.toNat).isEmpty = false := by
    cases e : TL.numL i.toNat with
    | nil => exact absurd e (TL.numL_ne _)
    | cons _ _ => rfl
  have h2 : (TL.numL i.toNat).all isDg = true := by
    rw [List.all_eq_true]
    intro c hc
    have := TL.numL_digits i.toNat c hc
    simp [isDg, this]
  rw [h1, h2]
  by_cases h0 : i.toNat = 0
  · rw [h0, TL.numL_lt (by decide)]; rfl
  · have := numL_head i.toNat (by omega)
    cases e : ((TL.numL i.toNat)[0]? == some 48) with
    | false => simp
    | true => exact absurd (by simpa using e) this
theorem wVal_sI {i : Int} (h : 0 ≤ i) : wVal (sI i) = i := by
  unfold wVal
  rw [sg_sI h, TL.numL_val]
  omega
theorem chOk_sI {i : Int} (h : 0 ≤ i) : chOk (sI i) := fun x hx => by
  rw [sg_sI h] at hx
  have := TL.numL_digits i.toNat x hx
  omega
theorem sI_free {i : Int} (h : 0 ≤ i) {c : Nat} (hc : c < 48) : c ∉ sg (sI i) := by
  rw [sg_sI h]
  exact TL.numL_free (.inl hc)
/-- a valid bridge's numbers -/
structure Ok4 (q : Quad) : Prop where
  a1 : 0 ≤ q.q1
  b1 : q.q1 ≤ 1000000000000000000
  a2 : 0 ≤ q.q2
  b2 : q.q2 ≤ 1000000000000000000
  a3 : 0 ≤ q.q3
  b3 : q.q3 ≤ 1000000000000000000
  a4 : 0 ≤ q.q4
  b4 : q.q4 ≤ 1000000000000000000
theorem ok4_of {c : Int} (hc : c ≤ 12) {q : Quad} (h : isL c q = true) : Ok4 q := by
  obtain ⟨q1, q2, q3, q4⟩ := q
  rw [isL_iff] at h
  exact ⟨by show 0 ≤ q1; omega, by show q1 ≤ _; omega, by show 0 ≤ q2; omega, by show q2 ≤ _; omega, by show 0 ≤ q3; omega, by show q3 ≤ _; omega, by show 0 ≤ q4; omega, by show q4 ≤ _; omega⟩
def wordsQ (q : Quad) : List Str := [("bridge" : Str), sI q.q1, sI q.q2, sI q.q3, sI q.q4]
def wordsC (c : Int) : List Str := [("places" : Str), sI c]
def linesT (c : Int) (qs : List Quad) : List Str := Txt.join bk (wordsC c) :: qs.map fun q => Txt.join bk (wordsQ q)
def textOf (c : Int) (qs : List Quad) : Str := Txt.join nl (linesT c qs)
theorem sg_bridge : sg ("bridge" : Str) = [98, 114, 105, 100, 103, 101] := by rw [sg, TL.tl_ofString]; decide
theorem sg_places : sg ("places" : Str) = [112, 108, 97, 99, 101, 115] := by rw [sg, TL.tl_ofString]; decide
theorem wordsQ_free {q : Quad} (h : Ok4 q) {c : Nat} (hc : c < 48) : ∀ w ∈ wordsQ q, c ∉ sg w := by
  intro w hw
  simp only [wordsQ, List.mem_cons, List.not_mem_nil, or_false] at hw
  rcases hw with rfl | rfl | rfl | rfl | rfl
  · rw [sg_bridge]; simp; omega
  · exact sI_free h.a1 hc
  · exact sI_free h.a2 hc
  · exact sI_free h.a3 hc
  · exact sI_free h.a4 hc
theorem wordsQ_ok {q : Quad} (h : Ok4 q) : ∀ w ∈ wordsQ q, chOk w := by
  intro w hw
  simp only [wordsQ, List.mem_cons, List.not_mem_nil, or_false] at hw
  rcases hw with rfl | rfl | rfl | rfl | rfl
  · exact chB
  · exact chOk_sI h.a1
  · exact chOk_sI h.a2
  · exact chOk_sI h.a3
  · exact chOk_sI h.a4
theorem wordsC_free {x : Int} (h : 0 ≤ x) {c : Nat} (hc : c < 48) : ∀ w ∈ wordsC x, c ∉ sg w := by
  intro w hw
  simp only [wordsC, List.mem_cons, List.not_mem_nil, or_false] at hw
  rcases hw with rfl | rfl
  · rw [sg_places]; simp; omega
  · exact sI_free h hc
theorem wordsC_ok {x : Int} (h : 0 ≤ x) : ∀ w ∈ wordsC x, chOk w := by
  intro w hw
  simp only [wordsC, List.mem_cons, List.not_mem_nil, or_false] at hw
  rcases hw with rfl | rfl
  · exact chP
  · exact chOk_sI h
theorem lineQ_len {q : Quad} (h : Ok4 q) : (Txt.join bk (wordsQ q)).length ≤ 90 := by
  have e := joined_len (ps := wordsQ q) sg_bk (by simp [wordsQ])
  have h1 := sI_len h.a1 h.b1
  have h2 := sI_len h.a2 h.b2
  have h3 := sI_len h.a3 h.b3
  have h4 := sI_len h.a4 h.b4
  have hb : ("bridge" : Str).length = 6 := by rw [len_sg, sg_bridge]; rfl
  simp [wordsQ, hb] at e
  simp only [wordsQ]
  omega
theorem lineC_len {x : Int} (h : 0 ≤ x) (h2 : x ≤ 1000000000000000000) : (Txt.join bk (wordsC x)).length ≤ 90 := by
  have e := joined_len (ps := wordsC x) sg_bk (by simp [wordsC])
  have h1 := sI_len h h2
  have hb : ("places" : Str).length = 6 := by rw [len_sg, sg_places]; rfl
  simp [wordsC, hb] at e
  simp only [wordsC]
  omega
theorem line_free {ws : List Str} (h : ∀ w ∈ ws, 10 ∉ sg w) : 10 ∉ sg (Txt.join bk ws) := fun hx => by
  rcases joined_mem sg_bk hx with q | ⟨p, hp, q⟩
  · cases q
  · exact h p hp q
section
variable {c : Int} {qs : List Quad} (hc : 0 ≤ c) (hc2 : c ≤ 12) (hq : ∀ q ∈ qs, isL c q = true)
include hc hc2 hq
theorem lines_free : ∀ l ∈ linesT c qs, 10 ∉ sg l := by
  intro l hl
  rcases List.mem_cons.mp hl with rfl | hl
  · exact line_free (wordsC_free hc (by decide))
  · obtain ⟨q, hqm, rfl⟩ := List.mem_map.mp hl
    exact line_free (wordsQ_free (ok4_of hc2 (hq q hqm)) (by decide))
theorem lines_ok : ∀ l ∈ linesT c qs, chOk l := by
  intro l hl
  rcases List.mem_cons.mp hl with rfl | hl
  · exact chOk_join sg_bk (by decide) (wordsC_ok hc)
  · obtain ⟨q, hqm, rfl⟩ := List.mem_map.mp hl
    exact chOk_join sg_bk (by decide) (wordsQ_ok (ok4_of hc2 (hq q hqm)))
theorem lines_len : ∀ l ∈ linesT c qs, l.length ≤ 90 := by
  intro l hl
  rcases List.mem_cons.mp hl with rfl | hl
  · exact lineC_len hc (by omega)
  · obtain ⟨q, hqm, rfl⟩ := List.mem_map.mp hl
    exact lineQ_len (ok4_of hc2 (hq q hqm))
theorem split_text : Txt.split (textOf c qs) nl = linesT c qs := joined_back sg_nl (by decide) (by simp [linesT]) (lines_free hc hc2 hq)
theorem sum_le {ls : List Str} {n : Nat} (h : ∀ l ∈ ls, l.length ≤ n) : (ls.map (·.length)).sum ≤ ls.length * n := by
  clear hc hc2 hq
  induction ls with
  | nil => simp
  | cons l r ih =>
    have h1 := h l (by simp)
    have h2 := ih fun x hx => h x (by simp [hx])
    simp only [List.map_cons, List.sum_cons, List.length_cons, Nat.succ_mul]
    omega
theorem gt_text (hl : qs.length ≤ 24) : Gt 90 3000 (textOf c qs) where
  ok := chOk_join sg_nl (by decide) (lines_ok hc hc2 hq)
  len := by
    have e := joined_len (ps := linesT c qs) sg_nl (by simp [linesT])
    have h := sum_le hc hc2 hq (lines_len hc hc2 hq)
    have hn : (linesT c qs).length = qs.length + 1 := by simp [linesT]
    rw [hn] at e h
    show (Txt.join nl (linesT c qs)).length ≤ 3000
    have : (qs.length + 1) * 90 ≤ 25 * 90 := Nat.mul_le_mul_right _ (by omega)
    omega
  line := by rw [split_text hc hc2 hq]; exact lines_len hc hc2 hq
theorem LS_text : LS (textOf c qs) = wordsC c :: qs.map wordsQ := by
  unfold LS
  rw [split_text hc hc2 hq]
  simp only [linesT, List.map_cons, List.map_map]
  rw [joined_back sg_bk (by decide) (by simp [wordsC]) (wordsC_free hc (by decide))]
  congr 1
  refine List.map_congr_left fun q hqm => ?_
  exact joined_back sg_bk (by decide) (by simp [wordsQ]) (wordsQ_free (ok4_of hc2 (hq q hqm)) (by decide))
theorem row_text {q : Quad} (h : Ok4 q) : rowOf (wordsQ q) = some q := by
  clear hc hc2 hq
  have e : numsOf [sI q.q1, sI q.q2, sI q.q3, sI q.q4] = some [q.q1, q.q2, q.q3, q.q4] := by
    unfold numsOf
    simp [wOk_sI h.a1, wOk_sI h.a2, wOk_sI h.a3, wOk_sI h.a4, wVal_sI h.a1, wVal_sI h.a2, wVal_sI h.a3, wVal_sI h.a4]
  simp [rowOf, wordsQ, numsLen, e, quadOf]
theorem rows_text : ∀ (k : Nat) (ps : List Quad), (∀ q ∈ ps, Ok4 q) → rowsOf k (ps.map wordsQ) = .inr ps := by
  clear hc hc2 hq
  intro k ps h
  induction ps generalizing k with
  | nil => rfl
  | cons q r ih =>
    have e1 := ih (k + 1) fun x hx => h x (by simp [hx])
    have h1 := h q (by simp)
    have e2 : rowOf (wordsQ q) = some q := by
      have e : numsOf [sI q.q1, sI q.q2, sI q.q3, sI q.q4] = some [q.q1, q.q2, q.q3, q.q4] := by
        unfold numsOf
        simp [wOk_sI h1.a1, wOk_sI h1.a2, wOk_sI h1.a3, wOk_sI h1.a4, wVal_sI h1.a1, wVal_sI h1.a2, wVal_sI h1.a3, wVal_sI h1.a4]
      simp [rowOf, wordsQ, numsLen, e, quadOf]
    simp [rowsOf, e2, e1]
theorem read_text (h1 : 1 ≤ c) (hl : qs.length ≤ 24) : readR (LS (textOf c qs)) = .good c qs := by
  rw [LS_text hc hc2 hq]
  have e : numsOf [sI c] = some [c] := by
    unfold numsOf
    simp [wOk_sI hc, wVal_sI hc]
  have e1 : countOf (wordsC c) = some c := by simp [countOf, wordsC, numsLen, e]
  have e2 := rows_text hc hc2 hq 1 qs fun q h => ok4_of hc2 (hq q h)
  have e3 : badOf c qs = none := by
    unfold badOf
    rw [if_pos ⟨h1, hc2⟩, badFrom_none (by omega) hq]; rfl
  simp [readR, e1, e2, e3]
end
end Law
set_option Elab.async false
set_option linter.all false
set_option maxRecDepth 100000
set_option maxHeartbeats 4000000
/-! T9: the texts that the law and the program write. -/
namespace Law
open PySem CL
variable [TheK]
theorem join_ok {z : Str} {ys : List Str} (h : (ys.map (·.length)).sum + ys.length * z.length ≤ 16777216) (S : Store) : oJoin z (.lst (ys.map D.str)) S = .ok (.str (Txt.join z ys)) S := by
  simp [oJoin, itemsOf, strsOf_map, h]
theorem len_bk : bk.length = 1 := by rw [len_sg, sg_bk]; rfl
theorem len_nl : nl.length = 1 := by rw [len_sg, sg_nl]; rfl
theorem wordsQ_sum {q : Quad} (h : Ok4 q) : ((wordsQ q).map (·.length)).sum + (wordsQ q).length * bk.length ≤ 16777216 := by
  have e := joined_len (ps := wordsQ q) sg_bk (by simp [wordsQ])
  have := lineQ_len h
  rw [len_bk]; omega
theorem wordsC_sum {x : Int} (h : 0 ≤ x) (h2 : x ≤ 1000000000000000000) : ((wordsC x).map (·.length)).sum + (wordsC x).length * bk.length ≤ 16777216 := by
  have e := joined_len (ps := wordsC x) sg_bk (by simp [wordsC])
  have := lineC_len h h2
  rw [len_bk]; omega
theorem sg_placesB : sg ("places " : Str) = [112, 108, 97, 99, 101, 115, 32] := by rw [sg, TL.tl_ofString]; decide
theorem line_c (x : Int) : ("places " : Str) ++ sI x = Txt.join bk (wordsC x) := by
  apply TL.ext_tl
  show sg _ = sg _
  rw [sg_join sg_bk, show sg (("places " : Str) ++ sI x) = sg ("places " : Str) ++ sg (sI x) from TL.tl_append _ _, sg_placesB]
  simp [wordsC, TL.joinL, sg_places]
/-- [str(n) for n in link] -/
theorem strs_lc {q : Quad} (h : Ok4 q) (i j : Nat) (z : Sl) (hz : z[i]? = some (.d (qd q))) (hj : j < z.length) (S : Store) : cLc (CL.iSeq (cVar i)) (gN j) tYesC (cApp bStrI (aCons (cVar j) aNil)) [j] z S = .ok (.lst ([sI q.q1, sI q.q2, sI q.q3, sI q.q4].map D.str)) S := by
  have it : CL.iSeq (cVar i) z S = .ok [.int q.q1, .int q.q2, .int q.q3, .int q.q4] S := by simp [hz, qd]
  let f : D → D := fun d => match d with | .int n => .str (sI n) | d => d
  have key := lc_map (gN j) tYesC (cApp bStrI (aCons (cVar j) aNil)) (wipeD z [j]) S f [.int q.q1, .int q.q2, .int q.q3, .int q.q4] [] (by simp) (fun d hd => by
    have hn : ∃ n : Int, d = .int n ∧ 0 ≤ n ∧ n ≤ 1000000000000000000 := by
      simp only [List.mem_cons, List.not_mem_nil, or_false] at hd
      rcases hd with rfl | rfl | rfl | rfl
      · exact ⟨_, rfl, h.a1, h.b1⟩
      · exact ⟨_, rfl, h.a2, h.b2⟩
      · exact ⟨_, rfl, h.a3, h.b3⟩
      · exact ⟨_, rfl, h.a4, h.b4⟩
    obtain ⟨n, rfl, h1, h2⟩ := hn
    refine ⟨_, rfl, rfl, ?_⟩
    have e : ((wipeD z [j]).set j (.d (.int n)))[j]? = some (.d (.int n)) := List.getElem?_set_self (by simp [wipeD]; omega)
    simp [e, str_int h1 h2, f])
  exact lc_eq it key
section
variable (a : Ad) (S : Store) {c : Int} {qs : List Quad} (hc : 1 ≤ c) (hc2 : c ≤ 12) (hq : ∀ q ∈ qs, isL c q = true) (hl : qs.length ≤ 24)
theorem law_text_loop (x0 x1 : SV) : ∀ (ps : List Quad) (acc : List Str) (v3 v4 v5 : SV), (∀ q ∈ ps, Ok4 q) → acc.length + ps.length ≤ 1000 → ∃ w3 w4 w5, loop (gN 3) (b_law_text_2 a) (ps.map qd) [x0, x1, .l (acc.map D.str), v3, v4, v5] S = .nx [x0, x1, .l ((acc ++ ps.map fun q => Txt.join bk (wordsQ q)).map D.str), w3, w4, w5] S
  | [], acc, v3, v4, v5, _, _ => ⟨v3, v4, v5, by simp⟩
  | q :: ps, acc, v3, v4, v5, h, hl => by
    have hl' : acc.length + (ps.length + 1) ≤ 1000 := by simpa using hl
    have h1 := h q (by simp)
    have ha : acc.length < 16777216 := by omega
    have s1 : q_law_text_3 a [x0, x1, .l (acc.map D.str), .d (qd q), v4, v5] S = .nx [x0, x1, .l (acc.map D.str), .d (qd q), .d (.lst ((wordsQ q).map D.str)), v5] S := by
      have e := strs_lc h1 3 5 [x0, x1, .l (acc.map D.str), .d (qd q), v4, v5] rfl (by simp) S
      unfold q_law_text_3
      simp only [ev_set, ev_c2, ev_lst, ev_cons, ev_k, ev_nil, R.bind, e]
      simp [oAdd, wordsQ, e]
    have s2 : q_law_text_4 a [x0, x1, .l (acc.map D.str), .d (qd q), .d (.lst ((wordsQ q).map D.str)), v5] S = .nx [x0, x1, .l ((acc ++ [Txt.join bk (wordsQ q)]).map D.str), .d (qd q), .d (.lst ((wordsQ q).map D.str)), v5] S := by
      have e := join_ok (wordsQ_sum h1) S
      unfold q_law_text_4
      simp only [ev_append, List.getElem?_cons_zero, List.getElem?_cons_succ, ev_sm, ev_k, R.bind, ev_var, ev_slot]
      rw [show (Str.ofString " ") = bk from rfl, e]
      simp [ha]
    obtain ⟨w3, w4, w5, ih⟩ := law_text_loop x0 x1 ps (acc ++ [Txt.join bk (wordsQ q)]) (.d (qd q)) (.d (.lst ((wordsQ q).map D.str))) v5 (fun p hp => h p (by simp [hp])) (by simp; omega)
    refine ⟨w3, w4, w5, ?_⟩
    rw [List.map_cons, loop_cons (sa := b_law_text_2 a) (g := gN 3) (z := [x0, x1, .l (acc.map D.str), v3, v4, v5]) rfl ((seq_nx s1).trans s2), ih]
    simp
include hc hc2 hq hl
theorem lines_sum : ((linesT c qs).map (·.length)).sum + (linesT c qs).length * nl.length ≤ 16777216 := by
  have g := (gt_text (by omega) hc2 hq hl).len
  have e := joined_len (ps := linesT c qs) sg_nl (by simp [linesT])
  rw [len_nl]
  unfold textOf at g
  omega
theorem law_text_ok : g_law_text a [.int c, tq qs] S = .ok (.str (textOf c qs)) S := by
  have h4 : ∀ q ∈ qs, Ok4 q := fun q h => ok4_of hc2 (hq q h)
  obtain ⟨w3, w4, w5, hL⟩ := law_text_loop a S (.d (.int c)) (.d (tq qs)) qs [Txt.join bk (wordsC c)] .u .u .u h4 (by simp; omega)
  have ec := str_int (i := c) (by omega) (by omega) S
  have hlen : ("places " : Str).length + (sI c).length ≤ 16777216 := by
    have h1 : ("places " : Str).length = 7 := by rw [len_sg, sg_placesB]; rfl
    have h2 := sI_len (i := c) (by omega) (by omega)
    omega
  have s1 : q_law_text_1 a [.d (.int c), .d (tq qs), .u, .u, .u, .u] S = .nx [.d (.int c), .d (tq qs), .l (([Txt.join bk (wordsC c)] : List Str).map D.str), .u, .u, .u] S := by
    unfold q_law_text_1
    simp [ec, oAdd, hlen]
    exact line_c c
  have s2 : q_law_text_2 a [.d (.int c), .d (tq qs), .l (([Txt.join bk (wordsC c)] : List Str).map D.str), .u, .u, .u] S = .nx [.d (.int c), .d (tq qs), .l ((linesT c qs).map D.str), w3, w4, w5] S := by
    unfold q_law_text_2
    rw [ev_for]
    exact hL
  have s3 : q_law_text_5 a [.d (.int c), .d (tq qs), .l ((linesT c qs).map D.str), w3, w4, w5] S = .rt (.str (textOf c qs)) S := by
    have e := join_ok (lines_sum hc hc2 hq hl) S
    unfold q_law_text_5
    simp only [ev_frz, List.getElem?_cons_zero, List.getElem?_cons_succ, ev_ret, ev_sm, ev_k, R.bind, ev_var, ev_slot, List.set]
    rw [show (Str.ofString "\n") = nl from rfl, e]
    rfl
  refine run_rt ?_
  show c_law_text a [.d (.int c), .d (tq qs), .u, .u, .u, .u] S = _
  unfold c_law_text
  rw [seq_nx s1, seq_nx s2, s3]
omit hc hc2 hq hl
theorem town_text_loop (x0 : SV) : ∀ (ps : List Quad) (acc : List Str) (v2 v3 : SV), (∀ q ∈ ps, Ok4 q) → acc.length + ps.length ≤ 1000 → ∃ w2 w3, loop (gN 2) (q_Town_text_3 a) (ps.map qd) [x0, .l (acc.map D.str), v2, v3] S = .nx [x0, .l ((acc ++ ps.map fun q => Txt.join bk (wordsQ q)).map D.str), w2, w3] S
  | [], acc, v2, v3, _, _ => ⟨v2, v3, by simp⟩
  | q :: ps, acc, v2, v3, h, hl => by
    have hl' : acc.length + (ps.length + 1) ≤ 1000 := by simpa using hl
    have h1 := h q (by simp)
    have ha : acc.length < 16777216 := by omega
    have s1 : q_Town_text_3 a [x0, .l (acc.map D.str), .d (qd q), v3] S = .nx [x0, .l ((acc ++ [Txt.join bk (wordsQ q)]).map D.str), .d (qd q), v3] S := by
      have e := strs_lc h1 2 3 [x0, .l (acc.map D.str), .d (qd q), v3] rfl (by simp) S
      have e2 := join_ok (wordsQ_sum h1) S
      unfold q_Town_text_3
      simp only [ev_append, List.getElem?_cons_zero, List.getElem?_cons_succ, ev_sm, ev_c2, ev_lst, ev_cons, ev_k, ev_nil, R.bind, e]
      rw [show (Str.ofString " ") = bk from rfl]
      simp only [oAdd]
      simp [wordsQ] at e2
      simp [e2, ha, wordsQ, e]
    obtain ⟨w2, w3, ih⟩ := town_text_loop x0 ps (acc ++ [Txt.join bk (wordsQ q)]) (.d (qd q)) v3 (fun p hp => h p (by simp [hp])) (by simp; omega)
    refine ⟨w2, w3, ?_⟩
    rw [List.map_cons, loop_cons (sa := q_Town_text_3 a) (g := gN 2) (z := [x0, .l (acc.map D.str), v2, v3]) rfl s1, ih]
    simp
include hc hc2 hq hl
theorem town_text_ok {j : Nat} (h : TownAt a c qs j S) : g_Town_text a [.ptr j] S = .ok (.str (textOf c qs)) S := by
  have h' : S[j]? = some (.ins a.C_Town [("size" : Str), ("links" : Str)] [.int c, tq qs]) := h
  have n1 := nsl2
  have h4 : ∀ q ∈ qs, Ok4 q := fun q h => ok4_of hc2 (hq q h)
  obtain ⟨w2, w3, hL⟩ := town_text_loop a S (.d (.ptr j)) qs [Txt.join bk (wordsC c)] .u .u h4 (by simp; omega)
  have ec := str_int (i := c) (by omega) (by omega) S
  have s1 : q_Town_text_1 a [.d (.ptr j), .u, .u, .u] S = .nx [.d (.ptr j), .l (([Txt.join bk (wordsC c)] : List Str).map D.str), .u, .u] S := by
    have e2 := join_ok (wordsC_sum (x := c) (by omega) (by omega)) S
    unfold q_Town_text_1
    simp [classOf, fieldOf, h', ec]
    rw [show (Str.ofString " ") = bk from rfl]
    simp [wordsC] at e2
    simp [e2, wordsC]
  have s2 : q_Town_text_2 a [.d (.ptr j), .l (([Txt.join bk (wordsC c)] : List Str).map D.str), .u, .u] S = .nx [.d (.ptr j), .l ((linesT c qs).map D.str), w2, w3] S := by
    have it : CL.iSeq (cFld a.C_Town ("links" : Str) (cVar 0)) [.d (.ptr j), .l (([Txt.join bk (wordsC c)] : List Str).map D.str), .u, .u] S = .ok (qs.map qd) S := by
      simp [classOf, fieldOf, h', List.lookup, beq_eq_false_iff_ne.mpr n1, tq]
    unfold q_Town_text_2
    rw [ev_for, it]
    exact hL
  have s3 : q_Town_text_4 a [.d (.ptr j), .l ((linesT c qs).map D.str), w2, w3] S = .rt (.str (textOf c qs)) S := by
    have e := join_ok (lines_sum hc hc2 hq hl) S
    unfold q_Town_text_4
    simp only [ev_frz, List.getElem?_cons_zero, List.getElem?_cons_succ, ev_ret, ev_sm, ev_k, R.bind, ev_var, ev_slot, List.set]
    rw [show (Str.ofString "\n") = nl from rfl, e]
    rfl
  refine run_rt ?_
  show c_Town_text a [.d (.ptr j), .u, .u, .u] S = _
  unfold c_Town_text
  rw [seq_nx s1, seq_nx s2, s3]
end
end Law
set_option Elab.async false
set_option linter.all false
set_option maxRecDepth 100000
set_option maxHeartbeats 4000000
/-! T10: a text bent. -/
namespace Law
open PySem CL
variable [TheK]
def tot (ls : List Str) : Nat := (ls.map (·.length)).sum + ls.length
theorem tot_app (x y : List Str) : tot (x ++ y) = tot x + tot y := by simp [tot]; omega
theorem tot_one (x : Str) : tot [x] = x.length + 1 := by simp [tot]
theorem tot_cut {ls : List Str} {k : Nat} (h : k < ls.length) : tot ls = tot (ls.take k) + (ls[k].length + 1) + tot (ls.drop (k + 1)) := by
  have e : ls = ls.take k ++ [ls[k]] ++ ls.drop (k + 1) := by simp
  have := congrArg tot e
  rw [tot_app, tot_app, tot_one] at this
  exact this
theorem tot_cut2 (ls : List Str) (k : Nat) : tot ls = tot (ls.take k) + tot (ls.drop k) := by rw [← tot_app, List.take_append_drop]
/-- a line -/
structure Ln (M : Nat) (l : Str) : Prop where
  ok : chOk l
  no : 10 ∉ sg l
  len : l.length ≤ M
theorem Ln.mono {M N : Nat} {l : Str} (h : Ln M l) (k : M ≤ N) : Ln N l := ⟨h.ok, h.no, by have := h.len; omega⟩
theorem Gt.ln {M T : Nat} {t : Str} (g : Gt M T t) : ∀ l ∈ Txt.split t nl, Ln M l := fun l hl => ⟨chOk_split sg_nl (by decide) g.ok hl, split_no t sg_nl (by decide) hl, g.line l hl⟩
theorem gt_of {M T : Nat} {ls : List Str} (h : ∀ l ∈ ls, Ln M l) (ht : tot ls ≤ T + 1) : Gt M T (Txt.join nl ls) := by
  by_cases hne : ls = []
  · subst hne
    have e0 : (Txt.join nl []).length = 0 := by rw [TL.join_eq]; rfl
    refine ⟨fun x hx => ?_, by omega, fun l hl => ?_⟩
    · rcases joined_mem sg_nl hx with q | ⟨p, hp, _⟩
      · subst q; decide
      · cases hp
    · have := split_small (Txt.join nl []) sg_nl (by decide) hl
      omega
  · refine ⟨chOk_join sg_nl (by decide) fun p hp => (h p hp).ok, ?_, ?_⟩
    · have := joined_len (ps := ls) sg_nl hne
      unfold tot at ht
      omega
    · rw [joined_back sg_nl (by decide) hne fun p hp => (h p hp).no]
      exact fun l hl => (h l hl).len
/-- a word put in -/
structure Od (o : Str) : Prop where
  ok : chOk o
  no : 10 ∉ sg o
  len : o.length ≤ 6
theorem od_lit {s : String} (h : (s.toList.map Char.toNat).all (fun c => decide (c < 0x110000) && decide (c ≠ 10)) = true) (h2 : s.toList.length ≤ 6) : Od (Str.ofString s) := by
  have e : sg (Str.ofString s) = s.toList.map Char.toNat := TL.tl_ofString s
  simp only [List.all_eq_true, Bool.and_eq_true, decide_eq_true_eq] at h
  refine ⟨fun x hx => ?_, fun hx => ?_, ?_⟩
  · rw [e] at hx; exact (h x hx).1
  · rw [e] at hx; exact (h 10 hx).2 rfl
  · rw [len_sg, e]; simpa using h2
/-- the words of a line, one changed -/
structure Bent (ws ws' : List Str) (o : Str) : Prop where
  sub : ∀ w ∈ ws', w ∈ ws ∨ w = o
  tot : tot ws' ≤ tot ws + 7
theorem ln_bent {M : Nat} {l o : Str} {ws' : List Str} (hl : Ln M l) (ho : Od o) (hb : Bent (Txt.split l bk) ws' o) : Ln (M + 7) (Txt.join bk ws') := by
  have hw : ∀ w ∈ ws', chOk w ∧ 10 ∉ sg w := fun w hw => by
    rcases hb.sub w hw with h | rfl
    · exact ⟨chOk_split sg_bk (by decide) hl.ok h, fun hx => hl.no (split_mem l sg_bk (by decide) h hx)⟩
    · exact ⟨ho.ok, ho.no⟩
  refine ⟨chOk_join sg_bk (by decide) fun w h => (hw w h).1, line_free fun w h => (hw w h).2, ?_⟩
  have h1 := split_len l sg_bk (by decide)
  have h2 := hb.tot
  have h3 := hl.len
  by_cases hne : ws' = []
  · subst hne
    have e0 : (Txt.join bk []).length = 0 := by rw [TL.join_eq]; rfl
    omega
  · have := joined_len (ps := ws') sg_bk hne
    unfold Law.tot at h2
    omega
theorem cutk {ls : List Str} {k : Nat} (h : k ≤ ls.length) : cutL (ls.map D.str) none (some (k : Int)) = (ls.take k).map D.str := by
  rw [cut_pre _ _ (by simpa using h), List.map_take]
theorem cutd {ls : List Str} {k : Nat} (h : k ≤ ls.length) : cutL (ls.map D.str) (some (k : Int)) none = (ls.drop k).map D.str := by
  rw [cut_suf _ _ (by simpa using h), List.map_drop]
theorem cutm {ls : List Str} {k : Nat} (h : k < ls.length) : cutL (ls.map D.str) (some (k : Int)) (some ((k : Int) + 1)) = [D.str ls[k]] := by
  unfold cutL
  have e : (k : Int) + 1 = ((k + 1 : Nat) : Int) := by omega
  rw [e, HT.sIx_nat, HT.sIx_nat]
  simp only [List.length_map]
  rw [Nat.min_eq_left (by omega), Nat.min_eq_left (by omega)]
  have e2 : k + 1 - k = 1 := by omega
  rw [e2, ← List.map_drop, ← List.map_take, List.drop_eq_getElem_cons h]
  rfl
theorem add_lst {xs ys : List Str} (h : xs.length + ys.length ≤ 16777216) (S : Store) : oAdd (.lst (xs.map D.str)) (.lst (ys.map D.str)) S = .ok (.lst ((xs ++ ys).map D.str)) S := by
  simp [oAdd, h]
theorem pow7 {n : Nat} (h : n ≤ 1000000) : (n : Int).natAbs ≤ 1000000000000000000000 := by omega
/-- the words of bent -/
theorem odd_pick {r : Int} (h : 0 ≤ r) (h2 : r < 11) : ∃ o : Str, Od o ∧ L2.atI [D.str ("" : Str), .str ("0" : Str), .str ("01" : Str), .str ("-1" : Str), .str ("bridge" : Str), .str ("places" : Str), .str ("Bridge" : Str), .str ("x" : Str), .str ("99" : Str), .str ("100" : Str), .str ("13" : Str)] r = some (.str o) := by
  have : r = 0 ∨ r = 1 ∨ r = 2 ∨ r = 3 ∨ r = 4 ∨ r = 5 ∨ r = 6 ∨ r = 7 ∨ r = 8 ∨ r = 9 ∨ r = 10 := by omega
  rcases this with rfl | rfl | rfl | rfl | rfl | rfl | rfl | rfl | rfl | rfl | rfl
  · exact ⟨_, od_lit (by decide) (by decide), L2.atI_nat (j := 0) rfl⟩
  · exact ⟨_, od_lit (by decide) (by decide), L2.atI_nat (j := 1) rfl⟩
  · exact ⟨_, od_lit (by decide) (by decide), L2.atI_nat (j := 2) rfl⟩
  · exact ⟨_, od_lit (by decide) (by decide), L2.atI_nat (j := 3) rfl⟩
  · exact ⟨_, od_lit (by decide) (by decide), L2.atI_nat (j := 4) rfl⟩
  · exact ⟨_, od_lit (by decide) (by decide), L2.atI_nat (j := 5) rfl⟩
  · exact ⟨_, od_lit (by decide) (by decide), L2.atI_nat (j := 6) rfl⟩
  · exact ⟨_, od_lit (by decide) (by decide), L2.atI_nat (j := 7) rfl⟩
  · exact ⟨_, od_lit (by decide) (by decide), L2.atI_nat (j := 8) rfl⟩
  · exact ⟨_, od_lit (by decide) (by decide), L2.atI_nat (j := 9) rfl⟩
  · exact ⟨_, od_lit (by decide) (by decide), L2.atI_nat (j := 10) rfl⟩
theorem ln_empty (M : Nat) : Ln M ("" : Str) := ⟨chOk_lit (by decide), by rw [sg, TL.tl_ofString]; decide, by rw [len_sg, sg, TL.tl_ofString]; exact Nat.zero_le _⟩
theorem bent_ok (a : Ad) {rest S : Store} (h : Nx rest S) {M T : Nat} {t : Str} (g : Gt M T t) (hM : M ≤ 600) (hT : T ≤ 50000) : ∃ (t' : Str) (S' : Store), g_law_bent a [.ptr 1, .str t] S = .ok (.str t') S' ∧ Nx rest S' ∧ Gt (M + 7) (T + M + 30) t' := by
  have hLn := g.ln
  have hne := split_ne t sg_nl (by decide)
  have hlen := split_len t sg_nl (by decide)
  have htl := g.len
  generalize eLs : Txt.split t nl = Ls at hLn hne hlen
  have hp : 0 < Ls.length := List.length_pos_iff.mpr hne
  obtain ⟨k0, S1, e1, a1, b1, n1⟩ := next_nx a h (Ls.length : Int) (by omega) (lg_le (pow7 (by omega)))
  obtain ⟨k, rfl⟩ : ∃ k : Nat, k0 = (k : Int) := ⟨k0.toNat, by omega⟩
  have hk : k < Ls.length := by omega
  have hlk := hLn Ls[k] (List.getElem_mem hk)
  have hwne := split_ne Ls[k] sg_bk (by decide)
  have hwlen := split_len Ls[k] sg_bk (by decide)
  have hlkl := hlk.len
  generalize eWs : Txt.split Ls[k] bk = Ws at hwne hwlen
  have hp2 : 0 < Ws.length := List.length_pos_iff.mpr hwne
  obtain ⟨j0, S2, e2, a2, b2, n2⟩ := next_nx a n1 (Ws.length : Int) (by omega) (lg_le (pow7 (by omega)))
  obtain ⟨j, rfl⟩ : ∃ j : Nat, j0 = (j : Int) := ⟨j0.toNat, by omega⟩
  have hj : j < Ws.length := by omega
  obtain ⟨r3, S3, e3, a3, b3, n3⟩ := next_nx a n2 11 (by decide) (lg_small (by decide))
  obtain ⟨o, ho, eo⟩ := odd_pick a3 b3
  obtain ⟨r4, S4, e4, a4, b4, n4⟩ := next_nx a n3 3 (by decide) (lg_small (by decide))
  obtain ⟨r5, S5, e5, a5, b5, n5⟩ := next_nx a n4 6 (by decide) (lg_small (by decide))
  have hol := ho.len
  have tW := tot_cut hj
  have tW2 := tot_cut2 Ws j
  -- the words
  have pickW : ∃ Ws', Bent Ws Ws' o ∧ L2.atI [D.lst ((Ws.take j ++ [o] ++ Ws.drop (j + 1)).map D.str), D.lst ((Ws.take j ++ Ws.drop (j + 1)).map D.str), D.lst ((Ws.take j ++ [o] ++ Ws.drop j).map D.str)] r4 = some (.lst (Ws'.map D.str)) := by
    have : r4 = 0 ∨ r4 = 1 ∨ r4 = 2 := by omega
    rcases this with rfl | rfl | rfl
    · refine ⟨Ws.take j ++ [o] ++ Ws.drop (j + 1), ⟨fun w hw => ?_, ?_⟩, by simp⟩
      · simp only [List.mem_append, List.mem_singleton] at hw
        rcases hw with (hw | hw) | hw
        · exact .inl (List.mem_of_mem_take hw)
        · exact .inr hw
        · exact .inl (List.mem_of_mem_drop hw)
      · rw [tot_app, tot_app, tot_one]; omega
    · refine ⟨Ws.take j ++ Ws.drop (j + 1), ⟨fun w hw => ?_, ?_⟩, by simp⟩
      · simp only [List.mem_append] at hw
        rcases hw with hw | hw
        · exact .inl (List.mem_of_mem_take hw)
        · exact .inl (List.mem_of_mem_drop hw)
      · rw [tot_app]; omega
    · refine ⟨Ws.take j ++ [o] ++ Ws.drop j, ⟨fun w hw => ?_, ?_⟩, by simp⟩
      · simp only [List.mem_append, List.mem_singleton] at hw
        rcases hw with (hw | hw) | hw
        · exact .inl (List.mem_of_mem_take hw)
        · exact .inr hw
        · exact .inl (List.mem_of_mem_drop hw)
      · rw [tot_app, tot_app, tot_one]; omega
  obtain ⟨Ws', hB, eW⟩ := pickW
  have hCh : Ln (M + 7) (Txt.join bk Ws') := ln_bent hlk ho (by rw [eWs]; exact hB)
  have hChl := hCh.len
  have tL := tot_cut hk
  have tLs : tot Ls = t.length + 1 := hlen
  have hLn7 : ∀ l ∈ Ls, Ln (M + 7) l := fun l hl => (hLn l hl).mono (by omega)
  -- the lines
  have pickL : ∃ Rs, (∀ l ∈ Rs, Ln (M + 7) l) ∧ tot Rs ≤ T + M + 31 ∧ L2.atI [D.lst ((Ls.take k ++ [Txt.join bk Ws'] ++ Ls.drop (k + 1)).map D.str), D.lst ((Ls.take k ++ [Txt.join bk Ws'] ++ Ls.drop (k + 1)).map D.str), D.lst ((Ls.take k ++ Ls.drop (k + 1)).map D.str), D.lst ((Ls.take k ++ [Ls[k], Ls[k]] ++ Ls.drop (k + 1)).map D.str), D.lst ((Ls ++ [("" : Str)]).map D.str), D.lst (Ls.reverse.map D.str)] r5 = some (.lst (Rs.map D.str)) := by
    have h0 : ∀ l ∈ Ls.take k ++ [Txt.join bk Ws'] ++ Ls.drop (k + 1), Ln (M + 7) l := fun l hl => by
      simp only [List.mem_append, List.mem_singleton] at hl
      rcases hl with (hl | hl) | hl
      · exact hLn7 l (List.mem_of_mem_take hl)
      · subst hl; exact hCh
      · exact hLn7 l (List.mem_of_mem_drop hl)
    have t0 : tot (Ls.take k ++ [Txt.join bk Ws'] ++ Ls.drop (k + 1)) ≤ T + M + 31 := by rw [tot_app, tot_app, tot_one]; omega
    have : r5 = 0 ∨ r5 = 1 ∨ r5 = 2 ∨ r5 = 3 ∨ r5 = 4 ∨ r5 = 5 := by omega
    rcases this with rfl | rfl | rfl | rfl | rfl | rfl
    · exact ⟨_, h0, t0, L2.atI_nat (j := 0) rfl⟩
    · exact ⟨_, h0, t0, L2.atI_nat (j := 1) rfl⟩
    · refine ⟨_, fun l hl => ?_, ?_, L2.atI_nat (j := 2) rfl⟩
      · simp only [List.mem_append] at hl
        rcases hl with hl | hl
        · exact hLn7 l (List.mem_of_mem_take hl)
        · exact hLn7 l (List.mem_of_mem_drop hl)
      · rw [tot_app]; omega
    · refine ⟨_, fun l hl => ?_, ?_, L2.atI_nat (j := 3) rfl⟩
      · simp only [List.mem_append, List.mem_cons, List.not_mem_nil, or_false] at hl
        rcases hl with (hl | hl | hl) | hl
        · exact hLn7 l (List.mem_of_mem_take hl)
        · subst hl; exact hLn7 _ (List.getElem_mem hk)
        · subst hl; exact hLn7 _ (List.getElem_mem hk)
        · exact hLn7 l (List.mem_of_mem_drop hl)
      · rw [tot_app, tot_app, show ([Ls[k], Ls[k]] : List Str) = [Ls[k]] ++ [Ls[k]] from rfl, tot_app, tot_one]; omega
    · refine ⟨_, fun l hl => ?_, ?_, L2.atI_nat (j := 4) rfl⟩
      · simp only [List.mem_append, List.mem_singleton] at hl
        rcases hl with hl | hl
        · exact hLn7 l hl
        · subst hl; exact ln_empty _
      · have e0 : ("" : Str).length = 0 := by rw [len_sg, sg, TL.tl_ofString]; rfl
        rw [tot_app, tot_one, e0]; omega
    · refine ⟨_, fun l hl => ?_, ?_, L2.atI_nat (j := 5) rfl⟩
      · exact hLn7 l (List.mem_reverse.mp hl)
      · have : tot Ls.reverse = tot Ls := by simp [tot, List.map_reverse, List.sum_reverse]
        rw [this]; omega
  obtain ⟨Rs, hR, hRt, eR⟩ := pickL
  refine ⟨Txt.join nl Rs, S5, ?_, n5, gt_of hR (by omega)⟩
  have hn : Ls.length ≤ 50001 := by omega
  have hn2 : Ws.length ≤ 601 := by omega
  have s1 : q_law_bent_1 a [.d (.ptr 1), .d (.str t), .u, .u, .u, .u, .u, .u, .u] S = .nx [.d (.ptr 1), .d (.str t), .d (.lst (Ls.map D.str)), .u, .u, .u, .u, .u, .u] S := by
    have e := split_nl (l := t) (by omega) S
    unfold q_law_bent_1
    simp only [ev_set, ev_sm, ev_var, List.getElem?_cons_zero, List.getElem?_cons_succ, ev_slot, R.bind, ev_k]
    rw [show (Str.ofString "\n") = nl from rfl, e, eLs]; rfl
  have s2 : q_law_bent_2 a [.d (.ptr 1), .d (.str t), .d (.lst (Ls.map D.str)), .u, .u, .u, .u, .u, .u] S = .nx [.d (.ptr 1), .d (.str t), .d (.lst (Ls.map D.str)), .d (.int (k : Nat)), .u, .u, .u, .u, .u] S1 := by
    unfold q_law_bent_2
    simp [bLen, itemsOf, e1]
  have atk : L2.atI (Ls.map D.str) (k : Int) = some (.str Ls[k]) := L2.atI_nat (by simp [hk])
  have s3 : q_law_bent_3 a [.d (.ptr 1), .d (.str t), .d (.lst (Ls.map D.str)), .d (.int (k : Nat)), .u, .u, .u, .u, .u] S1 = .nx [.d (.ptr 1), .d (.str t), .d (.lst (Ls.map D.str)), .d (.int (k : Nat)), .d (.lst (Ws.map D.str)), .u, .u, .u, .u] S1 := by
    have e := split_bk (l := Ls[k]) (by omega) S1
    unfold q_law_bent_3
    simp only [ev_set, ev_sm, ev_c2, ev_var, List.getElem?_cons_zero, List.getElem?_cons_succ, ev_slot, R.bind, ev_k, oIx, itemsOf, atk]
    rw [show (Str.ofString " ") = bk from rfl, e, eWs]; rfl
  have s4 : q_law_bent_4 a [.d (.ptr 1), .d (.str t), .d (.lst (Ls.map D.str)), .d (.int (k : Nat)), .d (.lst (Ws.map D.str)), .u, .u, .u, .u] S1 = .nx [.d (.ptr 1), .d (.str t), .d (.lst (Ls.map D.str)), .d (.int (k : Nat)), .d (.lst (Ws.map D.str)), .d (.int (j : Nat)), .u, .u, .u] S2 := by
    unfold q_law_bent_4
    simp [bLen, itemsOf, e2]
  have s5 : q_law_bent_5 a [.d (.ptr 1), .d (.str t), .d (.lst (Ls.map D.str)), .d (.int (k : Nat)), .d (.lst (Ws.map D.str)), .d (.int (j : Nat)), .u, .u, .u] S2 = .nx [.d (.ptr 1), .d (.str t), .d (.lst (Ls.map D.str)), .d (.int (k : Nat)), .d (.lst (Ws.map D.str)), .d (.int (j : Nat)), .d (.str o), .u, .u] S3 := by
    unfold q_law_bent_5
    simp [e3, oIx, itemsOf, eo]
  have hjj : (j : Int) + 1 = ((j + 1 : Nat) : Int) := by omega
  have hkk : (k : Int) + 1 = ((k + 1 : Nat) : Int) := by omega
  have c1 := cutk (ls := Ws) (k := j) (by omega)
  have c2' := cutd (ls := Ws) (k := j + 1) (by omega)
  have c3 := cutd (ls := Ws) (k := j) (by omega)
  rw [← hjj] at c2'
  have s6 : q_law_bent_6 a [.d (.ptr 1), .d (.str t), .d (.lst (Ls.map D.str)), .d (.int (k : Nat)), .d (.lst (Ws.map D.str)), .d (.int (j : Nat)), .d (.str o), .u, .u] S3 = .nx [.d (.ptr 1), .d (.str t), .d (.lst (Ls.map D.str)), .d (.int (k : Nat)), .d (.lst (Ws'.map D.str)), .d (.int (j : Nat)), .d (.str o), .u, .u] S4 := by
    have l1 : (Ws.take j).length ≤ 601 := by simp; omega
    have l2 : (Ws.drop (j + 1)).length ≤ 601 := by simp; omega
    have l3 : (Ws.drop j).length ≤ 601 := by simp; omega
    have A1 := fun S => add_lst (xs := Ws.take j) (ys := [o]) (by simp; omega) S
    have A2 := fun S => add_lst (xs := Ws.take j ++ [o]) (ys := Ws.drop (j + 1)) (by simp; omega) S
    have A3 := fun S => add_lst (xs := Ws.take j) (ys := Ws.drop (j + 1)) (by simp; omega) S
    have A4 := fun S => add_lst (xs := Ws.take j ++ [o]) (ys := Ws.drop j) (by simp; omega) S
    have D1 : ∀ S, oAdd (.int (j : Nat)) (.int 1) S = .ok (.int ((j : Int) + 1)) S := fun S => rfl
    have D2 : ([D.str o] : List D) = ([o] : List Str).map D.str := rfl
    unfold q_law_bent_6
    simp only [ev_set, ev_c2, ev_lst, ev_cons, ev_nil, ev_cut, ev_none, ev_some, ev_var, List.getElem?_cons_zero, List.getElem?_cons_succ, ev_slot, R.bind, ev_k, oCut, c1, c3, D1, c2', List.length_cons, List.length_nil, List.length_map, Nat.zero_add, Nat.reduceAdd, Nat.reduceLeDiff, if_true, D2, A1, A2, A3, A4, ev_call, e4, oIx, itemsOf, eW, ev_do]
    rfl
  have s7 : q_law_bent_7 a [.d (.ptr 1), .d (.str t), .d (.lst (Ls.map D.str)), .d (.int (k : Nat)), .d (.lst (Ws'.map D.str)), .d (.int (j : Nat)), .d (.str o), .u, .u] S4 = .nx [.d (.ptr 1), .d (.str t), .d (.lst (Ls.map D.str)), .d (.int (k : Nat)), .d (.lst (Ws'.map D.str)), .d (.int (j : Nat)), .d (.str o), .d (.str (Txt.join bk Ws')), .u] S4 := by
    have hb := hB.tot
    have hw : tot Ws = Ls[k].length + 1 := hwlen
    have e := join_ok (z := bk) (ys := Ws') (by rw [len_bk]; unfold tot at hb hw; omega) S4
    unfold q_law_bent_7
    simp only [ev_set, ev_sm, ev_var, List.getElem?_cons_zero, List.getElem?_cons_succ, ev_slot, R.bind, ev_k]
    rw [show (Str.ofString " ") = bk from rfl, e]; rfl
  have d1 := cutk (ls := Ls) (k := k) (by omega)
  have d2 := cutd (ls := Ls) (k := k + 1) (by omega)
  have d3 := cutm (ls := Ls) (k := k) hk
  rw [← hkk] at d2
  have s8 : q_law_bent_8 a [.d (.ptr 1), .d (.str t), .d (.lst (Ls.map D.str)), .d (.int (k : Nat)), .d (.lst (Ws'.map D.str)), .d (.int (j : Nat)), .d (.str o), .d (.str (Txt.join bk Ws')), .u] S4 = .nx [.d (.ptr 1), .d (.str t), .d (.lst (Ls.map D.str)), .d (.int (k : Nat)), .d (.lst (Ws'.map D.str)), .d (.int (j : Nat)), .d (.str o), .d (.str (Txt.join bk Ws')), .d (.lst [D.lst ((Ls.take k ++ [Txt.join bk Ws'] ++ Ls.drop (k + 1)).map D.str), D.lst ((Ls.take k ++ Ls.drop (k + 1)).map D.str), D.lst ((Ls.take k ++ [Ls[k], Ls[k]] ++ Ls.drop (k + 1)).map D.str)])] S4 := by
    have l1 : (Ls.take k).length ≤ 50001 := by simp; omega
    have l2 : (Ls.drop (k + 1)).length ≤ 50001 := by simp; omega
    have A1 := add_lst (xs := Ls.take k) (ys := [Txt.join bk Ws']) (by simp; omega) S4
    have A2 := add_lst (xs := Ls.take k ++ [Txt.join bk Ws']) (ys := Ls.drop (k + 1)) (by simp; omega) S4
    have A3 := add_lst (xs := Ls.take k) (ys := Ls.drop (k + 1)) (by simp; omega) S4
    have A4 := add_lst (xs := Ls.take k) (ys := [Ls[k], Ls[k]]) (by simp; omega) S4
    have A5 := add_lst (xs := Ls.take k ++ [Ls[k], Ls[k]]) (ys := Ls.drop (k + 1)) (by simp; omega) S4
    have D1 : ∀ S, oAdd (.int (k : Nat)) (.int 1) S = .ok (.int ((k : Int) + 1)) S := fun S => rfl
    have D2 : ([D.str (Txt.join bk Ws')] : List D) = ([Txt.join bk Ws'] : List Str).map D.str := rfl
    have D3 : oMul (.lst [D.str Ls[k]]) (.int 2) S4 = .ok (.lst (([Ls[k], Ls[k]] : List Str).map D.str)) S4 := rfl
    unfold q_law_bent_8
    simp only [ev_set, ev_c2, ev_lst, ev_cons, ev_nil, ev_cut, ev_none, ev_some, ev_var, List.getElem?_cons_zero, List.getElem?_cons_succ, ev_slot, R.bind, ev_k, oCut, d1, D1, d2, d3, D3, List.length_cons, List.length_nil, List.length_map, Nat.zero_add, Nat.reduceAdd, Nat.reduceLeDiff, if_true, D2, A1, A2, A3, A4, A5, ev_do]
    rfl
  have s9 : q_law_bent_9 a [.d (.ptr 1), .d (.str t), .d (.lst (Ls.map D.str)), .d (.int (k : Nat)), .d (.lst (Ws'.map D.str)), .d (.int (j : Nat)), .d (.str o), .d (.str (Txt.join bk Ws')), .d (.lst [D.lst ((Ls.take k ++ [Txt.join bk Ws'] ++ Ls.drop (k + 1)).map D.str), D.lst ((Ls.take k ++ Ls.drop (k + 1)).map D.str), D.lst ((Ls.take k ++ [Ls[k], Ls[k]] ++ Ls.drop (k + 1)).map D.str)])] S4 = .rt (.str (Txt.join nl Rs)) S5 := by
    have e := join_ok (z := nl) (ys := Rs) (by rw [len_nl]; unfold tot at hRt; omega) S5
    have A1 := add_lst (xs := Ls) (ys := [("" : Str)]) (by simp; omega) S4
    have D2 : ([D.str ("" : Str)] : List D) = ([("" : Str)] : List Str).map D.str := rfl
    have I0 : ∀ x y z : D, oIx (.lst [x, y, z]) (.int 0) S4 = .ok x S4 := fun x y z => by simp [oIx, itemsOf]
    have I1 : ∀ x y z : D, oIx (.lst [x, y, z]) (.int 1) S4 = .ok y S4 := fun x y z => by simp [oIx, itemsOf]
    have I2 : ∀ x y z : D, oIx (.lst [x, y, z]) (.int 2) S4 = .ok z S4 := fun x y z => by simp [oIx, itemsOf]
    have Rv : oRev (.lst (Ls.map D.str)) S4 = .ok (.lst (Ls.reverse.map D.str)) S4 := by simp [oRev]
    unfold q_law_bent_9
    simp only [ev_ret, ev_sm, ev_c1, ev_c2, ev_lst, ev_cons, ev_nil, ev_var, List.getElem?_cons_zero, List.getElem?_cons_succ, ev_slot, R.bind, ev_k, I0, I1, I2, Rv, List.length_cons, List.length_nil, List.length_map, Nat.zero_add, Nat.reduceAdd, Nat.reduceLeDiff, if_true, D2, A1, ev_call, e5]
    simp only [oIx, itemsOf, eR, R.bind]
    rw [show (Str.ofString "\n") = nl from rfl, e]; rfl
  refine run_rt ?_
  show c_law_bent a [.d (.ptr 1), .d (.str t), .u, .u, .u, .u, .u, .u, .u] S = _
  unfold c_law_bent
  rw [seq_nx s1, seq_nx s2, seq_nx s3, seq_nx s4, seq_nx s5, seq_nx s6, seq_nx s7, seq_nx s8, s9]
end Law
set_option Elab.async false
set_option linter.all false
set_option maxRecDepth 100000
set_option maxHeartbeats 4000000
/-! T11: errors. -/
namespace Law
open PySem CL
variable [TheK]
def errP (a : Ad) : Prop := a.C_InvalidText ≠ a.C_InvalidTown
theorem err_none (a : Ad) (act : CE) (z : Sl) (S S' : Store) (h : act z S = .ok .non S') : cLam 5 (fun ac => cb_law_error a ac) act z S = .ok (.tup [.str ("none" : Str)]) S' := by
  simp [cLam, cb_law_error, q_law_error_1, q_law_error_17, sTryAs, cAct, h]
theorem err_town (a : Ad) (act : CE) (z : Sl) (S S' : Store) (p : Str) (k : Int) (h : act z S = .exc (exT a p k) S') : cLam 5 (fun ac => cb_law_error a ac) act z S = .ok (.tup [.str ("town" : Str), .str p, .int k]) S' := by
  have c1 := eq_str false ("town" : Str) ("town" : Str) S' (by decide +kernel) (by decide +kernel)
  have ip : ¬ (("index" : Str) = ("part" : Str)) := by decide +kernel
  have pi : ¬ (("part" : Str) = ("index" : Str)) := by decide +kernel
  have cnt : List.countP (fun z => L2.eqV z (L2.V.bl true)) [L2.V.bl true, L2.V.bl false, L2.V.bl false, L2.V.bl false, L2.V.bl false, L2.V.bl false, L2.V.bl false, L2.V.bl false, L2.V.bl false, L2.V.bl false, L2.V.bl false, L2.V.bl false] = 1 := by rfl
  have fnd : findV (L2.V.bl true) [L2.V.bl true, L2.V.bl false, L2.V.bl false, L2.V.bl false, L2.V.bl false, L2.V.bl false, L2.V.bl false, L2.V.bl false, L2.V.bl false, L2.V.bl false, L2.V.bl false, L2.V.bl false] = some 0 := by rfl
  simp at c1
  simp [cLam, cb_law_error, q_law_error_1, q_law_error_4, q_law_error_5, q_law_error_6, q_law_error_7, q_law_error_8, q_law_error_9, q_law_error_10, q_law_error_11, q_law_error_12, q_law_error_13, sTryAs, cAct, h, exT, exm_BridgeError, sExtend, cLm, cIsE, kit_InvalidTown, kit_InvalidText, kit_InvalidTrips, kit_InvalidCount, kit_InvalidLife, kit_InvalidLoad, kit_UnknownPlace, kit_UnknownBridge, kit_UnknownKind, kit_TooManyBridges, kit_DifferentTowns, kit_Contradiction, kit_ValueError, oCount, oIndex, itemsOf, toVs, toV, cnt, fnd, oAdd, oIx, unx, cXf, c1, List.lookup, beq_eq_false_iff_ne.mpr ip, beq_eq_false_iff_ne.mpr pi]
theorem err_text (a : Ad) (hne : errP a) (act : CE) (z : Sl) (S S' : Store) (k : Int) (h : act z S = .exc (exR a k) S') : cLam 5 (fun ac => cb_law_error a ac) act z S = .ok (.tup [.str ("text" : Str), .int k]) S' := by
  have c1 := eq_str false ("text" : Str) ("town" : Str) S' (by decide +kernel) (by decide +kernel)
  have c2 := eq_str false ("text" : Str) ("text" : Str) S' (by decide +kernel) (by decide +kernel)
  have tt : (("text" : Str) == ("town" : Str)) = false := by decide +kernel
  rw [tt] at c1
  have cnt : List.countP (fun z => L2.eqV z (L2.V.bl true)) [L2.V.bl false, L2.V.bl true, L2.V.bl false, L2.V.bl false, L2.V.bl false, L2.V.bl false, L2.V.bl false, L2.V.bl false, L2.V.bl false, L2.V.bl false, L2.V.bl false, L2.V.bl false] = 1 := by rfl
  have fnd : findV (L2.V.bl true) [L2.V.bl false, L2.V.bl true, L2.V.bl false, L2.V.bl false, L2.V.bl false, L2.V.bl false, L2.V.bl false, L2.V.bl false, L2.V.bl false, L2.V.bl false, L2.V.bl false, L2.V.bl false] = some 1 := by rfl
  simp at c1 c2
  have hne' : a.C_InvalidText ≠ a.C_InvalidTown := hne
  simp [cLam, cb_law_error, q_law_error_1, q_law_error_4, q_law_error_5, q_law_error_6, q_law_error_7, q_law_error_8, q_law_error_9, q_law_error_10, q_law_error_11, q_law_error_12, q_law_error_13, q_law_error_14, q_law_error_15, sTryAs, cAct, h, exR, exm_BridgeError, sExtend, cLm, cIsE, kit_InvalidTown, kit_InvalidText, kit_InvalidTrips, kit_InvalidCount, kit_InvalidLife, kit_InvalidLoad, kit_UnknownPlace, kit_UnknownBridge, kit_UnknownKind, kit_TooManyBridges, kit_DifferentTowns, kit_Contradiction, kit_ValueError, oCount, oIndex, itemsOf, toVs, toV, cnt, fnd, oAdd, oIx, unx, cXf, c1, c2, List.lookup, hne']
end Law
set_option Elab.async false
set_option linter.all false
set_option maxRecDepth 100000
set_option maxHeartbeats 4000000
/-! T12: a turn of the law, the law. -/
namespace Law
open PySem CL
variable [TheK]
theorem bad_str {c : Int} {qs : List Quad} {p : Str} {k : Int} (h : badOf c qs = some (p, k)) : PyData.canLay0 (.str p) = true := by
  have : p = ("bridges" : Str) ∨ p = ("count" : Str) := by
    unfold badOf at h
    split at h
    · cases hb : badFrom c 0 qs with
      | none => rw [hb] at h; cases h
      | some j => rw [hb] at h; simp at h; exact .inl h.1.symm
    · simp at h; exact .inr h.1.symm
  rcases this with rfl | rfl <;> decide +kernel
theorem badFrom_le {c : Int} : ∀ {qs : List Quad} {k : Nat}, k ≤ 24 → badFrom c k qs = none → k + qs.length ≤ 24
  | [], k, hk, _ => by simpa using hk
  | q :: qs, k, hk, h => by
    unfold badFrom at h
    split at h
    · cases h
    · rename_i hn
      have : k ≠ 24 := fun e => hn (.inl e)
      have := badFrom_le (qs := qs) (k := k + 1) (by omega) h
      simp; omega
theorem badOf_le {c : Int} {qs : List Quad} (h : badOf c qs = none) : qs.length ≤ 24 := by
  unfold badOf at h
  split at h
  · cases hb : badFrom c 0 qs with
    | none => have := badFrom_le (by decide) hb; omega
    | some j => rw [hb] at h; cases h
  · cases h
theorem read_town {ls : List (List Str)} {p : Str} {k : Int} (h : readR ls = .town p k) : PyData.canLay0 (.str p) = true := by
  cases ls with
  | nil => cases h
  | cons ws r =>
    simp only [readR] at h
    cases e1 : countOf ws with
    | none => rw [e1] at h; cases h
    | some c =>
      rw [e1] at h
      dsimp only at h
      cases e2 : rowsOf 1 r with
      | inl k => rw [e2] at h; cases h
      | inr qs =>
        rw [e2] at h
        dsimp only at h
        cases e3 : badOf c qs with
        | none => rw [e3] at h; cases h
        | some pk =>
          obtain ⟨p', k'⟩ := pk
          rw [e3] at h
          cases h
          exact bad_str e3
theorem read_good {ls : List (List Str)} {c : Int} {qs : List Quad} (h : readR ls = .good c qs) : qs.length ≤ 24 := by
  cases ls with
  | nil => cases h
  | cons ws r =>
    simp only [readR] at h
    cases e1 : countOf ws with
    | none => rw [e1] at h; cases h
    | some c =>
      rw [e1] at h
      dsimp only at h
      cases e2 : rowsOf 1 r with
      | inl k => rw [e2] at h; cases h
      | inr qs =>
        rw [e2] at h
        dsimp only at h
        cases e3 : badOf c qs with
        | none => rw [e3] at h; cases h; exact badOf_le e3
        | some pk =>
          obtain ⟨p', k'⟩ := pk
          rw [e3] at h
          cases h
def errD : Res → D
  | .good _ _ => .tup [.str ("none" : Str)]
  | r => resD r
section
variable (a : Ad) {rest S : Store} (v0 v2 v3 v4 v5 v6 v7 v8 v9 v10 : SV)
theorem t3 (h : Nx rest S) : ∃ (c : Int) (S' : Store), q_law_3 a [v0, .d (.ptr 1), v2, v3, v4, v5, v6, v7, v8, v9, v10] S = .nx [v0, .d (.ptr 1), v2, .d (.int c), v4, v5, v6, v7, v8, v9, v10] S' ∧ 1 ≤ c ∧ c ≤ 12 ∧ Nx rest S' := by
  obtain ⟨r, S1, e1, h1, h2, h3⟩ := next_nx a h 12 (by decide) (lg_small (by decide))
  refine ⟨1 + r, S1, ?_, by omega, by omega, h3⟩
  simp [q_law_3, e1, oAdd]
theorem t4 (h : Nx rest S) (c : Int) (hc : 1 ≤ c) (hc2 : c ≤ 12) : ∃ (qs : List Quad) (S' : Store), q_law_4 a [v0, .d (.ptr 1), v2, .d (.int c), v4, v5, v6, v7, v8, v9, v10] S = .nx [v0, .d (.ptr 1), v2, .d (.int c), .d (tq qs), v5, v6, v7, v8, v9, v10] S' ∧ Nx rest S' ∧ qs.length ≤ 24 ∧ ∀ q ∈ qs, isL c q = true := by
  obtain ⟨qs, S1, e1, h1, h2, h3⟩ := links_ok a h c hc hc2 6 (by decide) (by decide) true
  refine ⟨qs, S1, ?_, h1, by omega, fun q hq => (h3 q hq).1⟩
  simp [q_law_4, e1]
theorem t5 (c : Int) (qs : List Quad) (hc : 1 ≤ c) (hc2 : c ≤ 12) (hl : qs.length ≤ 24) (hq : ∀ q ∈ qs, isL c q = true) : q_law_5 a [v0, .d (.ptr 1), v2, .d (.int c), .d (tq qs), v5, v6, v7, v8, v9, v10] S = .nx [v0, .d (.ptr 1), v2, .d (.int c), .d (tq qs), .d (.ptr S.length), .d (.str (textOf c qs)), v7, v8, v9, v10] (S ++ [.ins a.C_Town [("size" : Str), ("links" : Str)] [.int c, tq qs]]) := by
  have hi : (S ++ [.ins a.C_Town [] []])[S.length]? = some (.ins a.C_Town [] []) := by simp
  have ei := init_ok a c qs (S ++ [.ins a.C_Town [] []]) S.length hi
  have e3 : badOf c qs = none := by
    unfold badOf
    rw [if_pos ⟨hc, hc2⟩, badFrom_none (by omega) hq]; rfl
  rw [e3] at ei
  simp at ei
  have et := law_text_ok a (S ++ [.ins a.C_Town [("size" : Str), ("links" : Str)] [.int c, tq qs]]) hc hc2 hq hl
  unfold q_law_5
  simp [ei, et]
theorem t6 (c : Int) (qs : List Quad) (hc : 1 ≤ c) (hc2 : c ≤ 12) (hl : qs.length ≤ 24) (hq : ∀ q ∈ qs, isL c q = true) (j : Nat) (hj : TownAt a c qs j S) : q_law_6 a [v0, .d (.ptr 1), v2, .d (.int c), .d (tq qs), .d (.ptr j), .d (.str (textOf c qs)), v7, v8, v9, v10] S = .nx [v0, .d (.ptr 1), v2, .d (.int c), .d (tq qs), .d (.ptr j), .d (.str (textOf c qs)), v7, v8, v9, v10] (S ++ [.ins a.C_Town [("size" : Str), ("links" : Str)] [.int c, tq qs]]) := by
  have g := gt_text (by omega) hc2 hq hl
  have e1 := town_text_ok a S hc hc2 hq hl hj
  have e2 := alike_ok a S 4 (.str (textOf c qs)) (can_str g.ok)
  have e3 := parse_ok a g (by decide) (by decide) S
  rw [read_text (by omega) hc2 hq hc hl] at e3
  simp only [parseR] at e3
  have hj2 : TownAt a c qs S.length (S ++ [.ins a.C_Town [("size" : Str), ("links" : Str)] [.int c, tq qs]]) := by unfold TownAt; simp
  have e4 := town_links a hj2
  have e5 := alike_ok a (S ++ [.ins a.C_Town [("size" : Str), ("links" : Str)] [.int c, tq qs]]) 4 (tq qs) (by simp [okD, tq]; exact ⟨by omega, fun q _ => by simp [okD, qd]⟩)
  have hj' : S[j]? = some (.ins a.C_Town [("size" : Str), ("links" : Str)] [.int c, tq qs]) := hj
  simp at e2 e5
  unfold q_law_6
  simp [classOf, hj', e1, e2, e3, e4, e5]
theorem t8_loop : ∀ (ks : List D) (S : Store) (t : Str) (M T : Nat) (v7 : SV), Nx rest S → Gt M T t → M + 7 * ks.length ≤ 600 → T + 700 * ks.length ≤ 50000 → ∃ (t' : Str) (S' : Store) (M' T' : Nat) (w7 : SV), loop (gN 7) (q_law_9 a) ks [v0, .d (.ptr 1), v2, v3, v4, v5, .d (.str t), v7, v8, v9, v10] S = .nx [v0, .d (.ptr 1), v2, v3, v4, v5, .d (.str t'), w7, v8, v9, v10] S' ∧ Nx rest S' ∧ Gt M' T' t' ∧ M' ≤ 640 ∧ T' ≤ 90000
  | [], S, t, M, T, v7, h, g, b1, b2 => ⟨t, S, M, T, v7, by simp, h, g, by omega, by omega⟩
  | k :: ks, S, t, M, T, v7, h, g, b1, b2 => by
    simp only [List.length_cons] at b1 b2
    obtain ⟨t1, S1, e1, n1, g1⟩ := bent_ok a h g (by omega) (by omega)
    obtain ⟨t', S', M', T', w7, e2, n2, g2, b3, b4⟩ := t8_loop ks S1 t1 (M + 7) (T + M + 30) (.d k) n1 g1 (by omega) (by omega)
    refine ⟨t', S', M', T', w7, ?_, n2, g2, b3, b4⟩
    rw [loop_cons (sa := q_law_9 a) (g := gN 7) (z := [v0, .d (.ptr 1), v2, v3, v4, v5, .d (.str t), v7, v8, v9, v10]) (z2 := [v0, .d (.ptr 1), v2, v3, v4, v5, .d (.str t1), .d k, v8, v9, v10]) (S2 := S1) rfl (by
      show q_law_9 a [v0, .d (.ptr 1), v2, v3, v4, v5, .d (.str t), .d k, v8, v9, v10] S = _
      simp [q_law_9, e1])]
    exact e2
theorem t8 (h : Nx rest S) (t : Str) (g : Gt 90 3000 t) : ∃ (t' : Str) (S' : Store) (M' T' : Nat) (w7 : SV), q_law_8 a [v0, .d (.ptr 1), v2, v3, v4, v5, .d (.str t), v7, v8, v9, v10] S = .nx [v0, .d (.ptr 1), v2, v3, v4, v5, .d (.str t'), w7, v8, v9, v10] S' ∧ Nx rest S' ∧ Gt M' T' t' ∧ M' ≤ 640 ∧ T' ≤ 90000 := by
  obtain ⟨r, S1, e1, h1, h2, h3⟩ := next_nx a h 2 (by decide) (lg_small (by decide))
  obtain ⟨n, rfl⟩ : ∃ n : Nat, r = (n : Int) := ⟨r.toNat, by omega⟩
  have src : CL.iRange1 (c2 oAdd (cK (.int 1)) (cCall (g_law_next a) (aCons (cVar 1) (aCons (cK (.int 2)) aNil)))) [v0, .d (.ptr 1), v2, v3, v4, v5, .d (.str t), v7, v8, v9, v10] S = .ok ((List.range' 0 (1 + n)).map fun (k : Nat) => D.int (k : Int)) S1 := by
    refine iRange1_nat ?_ (by omega)
    simp [e1, oAdd]
  obtain ⟨t', S', M', T', w7, e2, n2, g2, b3, b4⟩ := t8_loop a v0 v2 v3 v4 v5 v8 v9 v10 ((List.range' 0 (1 + n)).map fun (k : Nat) => D.int (k : Int)) S1 t 90 3000 v7 h3 g (by simp; omega) (by simp; omega)
  refine ⟨t', S', M', T', w7, ?_, n2, g2, b3, b4⟩
  unfold q_law_8
  rw [ev_for, src]
  exact e2
theorem t10 (h : Nx rest S) {M T : Nat} {t : Str} (g : Gt M T t) (hM : M ≤ 640) (hT : T ≤ 90000) : ∃ m, q_law_10 a [v0, .d (.ptr 1), v2, v3, v4, v5, .d (.str t), v7, v8, v9, v10] S = .nx [v0, .d (.ptr 1), v2, v3, v4, v5, .d (.str t), v7, .d (resD (readR (LS t))), .d (.ptr (S.length + 1)), v10] (S ++ [m] ++ [.lst []]) := by
  obtain ⟨m, e⟩ := read_ok a g hM hT S
  refine ⟨m, ?_⟩
  unfold q_law_10
  simp [e]
def Made (a : Ad) (R : Res) (i : Nat) (S : Store) : Prop := ∀ c qs, R = .good c qs → ∃ j, S[i]? = some (.lst [.ptr j]) ∧ TownAt a c qs j S
theorem t11 (hne : errP a) (h : Nx rest S) (m : MO) {M T : Nat} {t : Str} (g : Gt M T t) (hM : M ≤ 640) (hT : T ≤ 90000) : ∃ (rest' S' : Store), q_law_11 a [v0, .d (.ptr 1), v2, v3, v4, v5, .d (.str t), v7, v8, .d (.ptr (S.length + 1)), v10] (S ++ [m] ++ [.lst []]) = .nx [v0, .d (.ptr 1), v2, v3, v4, v5, .d (.str t), v7, v8, .d (.ptr (S.length + 1)), .d (errD (readR (LS t)))] S' ∧ Nx rest' S' ∧ Made a (readR (LS t)) (S.length + 1) S' := by
  have n1 := nx_app (nx_app h m) (.lst [])
  have hn := nx_len h
  have g0 : (S ++ [m] ++ [MO.lst []])[S.length + 1]? = some (.lst []) := by simp
  have ep := parse_ok a g hM hT (S ++ [m] ++ [.lst []])
  cases eR : readR (LS t) with
  | text k =>
    rw [eR] at ep
    have act : cAppendP (cVar 9) (cCmeth a.C_Town (g_Town_parse a) (cK (.ref a.C_Town)) (aCons (cVar 6) aNil)) [v0, .d (.ptr 1), v2, v3, v4, v5, .d (.str t), v7, v8, .d (.ptr (S.length + 1)), v10] (S ++ [m] ++ [.lst []]) = .exc (exR a (k : Nat)) (S ++ [m] ++ [.lst []]) := by
      simp only [parseR] at ep
      simp at ep g0
      simp [g0, ep]
    refine ⟨_, _, ?_, n1, fun c qs z => by cases z⟩
    have := err_text a hne _ _ _ _ _ act
    unfold q_law_11
    rw [ev_set, this]
    rfl
  | town p k =>
    rw [eR] at ep
    have act : cAppendP (cVar 9) (cCmeth a.C_Town (g_Town_parse a) (cK (.ref a.C_Town)) (aCons (cVar 6) aNil)) [v0, .d (.ptr 1), v2, v3, v4, v5, .d (.str t), v7, v8, .d (.ptr (S.length + 1)), v10] (S ++ [m] ++ [.lst []]) = .exc (exT a p k) (S ++ [m] ++ [.lst []] ++ [.ins a.C_Town [] []]) := by
      simp only [parseR] at ep
      simp at ep g0
      simp [g0, ep]
    refine ⟨_, _, ?_, nx_app n1 (.ins a.C_Town [] []), fun c qs z => by cases z⟩
    have := err_town a _ _ _ _ _ _ act
    unfold q_law_11
    rw [ev_set, this]
    rfl
  | good c qs =>
    rw [eR] at ep
    have n2 := nx_app n1 (.ins a.C_Town [("size" : Str), ("links" : Str)] [.int c, tq qs])
    have n3 := nx_set n2 (S.length + 1) (by omega) (.lst [.ptr (S.length + 2)])
    have act : cAppendP (cVar 9) (cCmeth a.C_Town (g_Town_parse a) (cK (.ref a.C_Town)) (aCons (cVar 6) aNil)) [v0, .d (.ptr 1), v2, v3, v4, v5, .d (.str t), v7, v8, .d (.ptr (S.length + 1)), v10] (S ++ [m] ++ [.lst []]) = .ok .non ((S ++ [m] ++ [MO.lst []] ++ [MO.ins a.C_Town [("size" : Str), ("links" : Str)] [.int c, tq qs]]).set (S.length + 1) (.lst [.ptr (S.length + 2)])) := by
      simp only [parseR] at ep
      have g2 : (S ++ [m, MO.lst [], .ins a.C_Town [("size" : Str), ("links" : Str)] [.int c, tq qs]])[S.length + 1]? = some (.lst []) := by simp
      simp at ep g0
      simp [g0, ep, g2]
    refine ⟨_, _, ?_, n3, fun c' qs' z => ?_⟩
    · have := err_none a _ _ _ _ act
      unfold q_law_11
      rw [ev_set, this]
      rfl
    · cases z
      refine ⟨S.length + 2, ?_, ?_⟩
      · rw [List.getElem?_set_self (by simp)]
      · unfold TownAt
        rw [List.getElem?_set_ne (by omega)]
        simp
theorem shaped_text (k : Nat) : SeqAt.shaped (.tuple [.str ("text" : Str), .int (k : Int)]) = true := by
  have h0 : PyData.canLay0 (.str ("text" : Str)) = true := by decide +kernel
  simp only [PyData.canLay0] at h0
  simp [SeqAt.shaped, PyData.canLay0, PyData.canLayAll0, h0, PyData.depth, PyData.depthAll]
theorem shaped_town (p : Str) (k : Int) (h1 : PyData.canLay0 (.str p) = true) : SeqAt.shaped (.tuple [.str ("town" : Str), .str p, .int k]) = true := by
  have h0 : PyData.canLay0 (.str ("town" : Str)) = true := by decide +kernel
  simp only [PyData.canLay0] at h0 h1
  simp [SeqAt.shaped, PyData.canLay0, PyData.canLayAll0, h0, h1, PyData.depth, PyData.depthAll]
theorem t12 (t : Str) : q_law_12 a [v0, v2, v3, v4, v5, v6, v7, v8, .d (resD (readR (LS t))), v9, .d (errD (readR (LS t)))] S = .nx [v0, v2, v3, v4, v5, v6, v7, v8, .d (resD (readR (LS t))), v9, .d (errD (readR (LS t)))] S := by
  unfold q_law_12
  cases eR : readR (LS t) with
  | text k =>
    have e1 := eq_str false ("text" : Str) ("good" : Str) S (by decide +kernel) (by decide +kernel)
    rw [show (("text" : Str) == ("good" : Str)) = false by decide +kernel] at e1
    have e2 := eq_self (.tup [.str ("text" : Str), .int (k : Nat)]) (.tuple [.str ("text" : Str), .int (k : Nat)]) S (by simp [toPy, toPys]) rfl (shaped_text k) true
    simp at e1
    simp [resD, errD, oIx, itemsOf, e1, e2]
  | town p k =>
    have e1 := eq_str false ("town" : Str) ("good" : Str) S (by decide +kernel) (by decide +kernel)
    rw [show (("town" : Str) == ("good" : Str)) = false by decide +kernel] at e1
    have e2 := eq_self (.tup [.str ("town" : Str), .str p, .int k]) (.tuple [.str ("town" : Str), .str p, .int k]) S (by simp [toPy, toPys]) rfl (shaped_town p k (read_town eR)) true
    simp at e1
    simp [resD, errD, oIx, itemsOf, e1, e2]
  | good c qs =>
    have e1 := eq_str false ("good" : Str) ("good" : Str) S (by decide +kernel) (by decide +kernel)
    have e2 := eq_self (.tup [.str ("none" : Str)]) (.tuple [.str ("none" : Str)]) S (by simp [toPy, toPys]) rfl (by decide +kernel) true
    simp at e1
    simp [resD, errD, oIx, itemsOf, e1, e2]
theorem t14 (t : Str) (i : Nat) (hm : Made a (readR (LS t)) i S) : q_law_14 a [v0, v2, v3, v4, v5, v6, v7, v8, .d (resD (readR (LS t))), .d (.ptr i), v10] S = .nx [v0, v2, v3, v4, v5, v6, v7, v8, .d (resD (readR (LS t))), .d (.ptr i), v10] S := by
  unfold q_law_14
  cases eR : readR (LS t) with
  | text k =>
    have e1 := eq_str false ("text" : Str) ("good" : Str) S (by decide +kernel) (by decide +kernel)
    rw [show (("text" : Str) == ("good" : Str)) = false by decide +kernel] at e1
    simp at e1
    simp [resD, oIx, itemsOf, e1]
  | town p k =>
    have e1 := eq_str false ("town" : Str) ("good" : Str) S (by decide +kernel) (by decide +kernel)
    rw [show (("town" : Str) == ("good" : Str)) = false by decide +kernel] at e1
    simp at e1
    simp [resD, oIx, itemsOf, e1]
  | good c qs =>
    have e1 := eq_str false ("good" : Str) ("good" : Str) S (by decide +kernel) (by decide +kernel)
    obtain ⟨j, h1, h2⟩ := hm c qs eR
    have h2' : S[j]? = some (.ins a.C_Town [("size" : Str), ("links" : Str)] [.int c, tq qs]) := h2
    have hl := read_good eR
    have e3 := town_count a h2
    have e4 := town_links a h2
    have e5 := alike_ok a S 4 (.lst [.int c, tq qs]) (by simp [okD, tq]; exact ⟨by omega, fun q _ => by simp [okD, qd]⟩)
    simp at e1 e5
    simp [resD, oIx, itemsOf, e1, h1, classOf, h2', e3, e4, e5]
theorem law_turn (hne : errP a) (h : Nx rest S) : ∃ (rest' S' : Store) (w3 w4 w5 w6 w7 w8 w9 w10 : SV), b_law_2 a [v0, .d (.ptr 1), v2, v3, v4, v5, v6, v7, v8, v9, v10] S = .nx [v0, .d (.ptr 1), v2, w3, w4, w5, w6, w7, w8, w9, w10] S' ∧ Nx rest' S' := by
  obtain ⟨c, S1, e1, c1, c2, n1⟩ := t3 a v0 v2 v3 v4 v5 v6 v7 v8 v9 v10 h
  obtain ⟨qs, S2, e2, n2, l2, q2⟩ := t4 a v0 v2 v4 v5 v6 v7 v8 v9 v10 n1 c c1 c2
  have e5 := t5 a (S := S2) v0 v2 v5 v6 v7 v8 v9 v10 c qs c1 c2 l2 q2
  have n5 := nx_app n2 (.ins a.C_Town [("size" : Str), ("links" : Str)] [.int c, tq qs])
  have hj : TownAt a c qs S2.length (S2 ++ [.ins a.C_Town [("size" : Str), ("links" : Str)] [.int c, tq qs]]) := by unfold TownAt; simp
  have e6 := t6 a (S := S2 ++ [.ins a.C_Town [("size" : Str), ("links" : Str)] [.int c, tq qs]]) v0 v2 v7 v8 v9 v10 c qs c1 c2 l2 q2 S2.length hj
  have n6 := nx_app n5 (.ins a.C_Town [("size" : Str), ("links" : Str)] [.int c, tq qs])
  obtain ⟨t', S8, M', T', w7, e8, n8, g8, b3, b4⟩ := t8 a v0 v2 (.d (.int c)) (.d (tq qs)) (.d (.ptr S2.length)) v7 v8 v9 v10 n6 (textOf c qs) (gt_text (by omega) c2 q2 l2)
  obtain ⟨m, e10⟩ := t10 a v0 v2 (.d (.int c)) (.d (tq qs)) (.d (.ptr S2.length)) w7 v8 v9 v10 n8 g8 b3 b4
  obtain ⟨rest', S11, e11, n11, m11⟩ := t11 a v0 v2 (.d (.int c)) (.d (tq qs)) (.d (.ptr S2.length)) w7 (.d (resD (readR (LS t')))) v10 hne n8 m g8 b3 b4
  have e12 := t12 a (S := S11) v0 (.d (.ptr 1)) v2 (.d (.int c)) (.d (tq qs)) (.d (.ptr S2.length)) (.d (.str t')) w7 (.d (.ptr (S8.length + 1))) t'
  have e14 := t14 a (S := S11) v0 (.d (.ptr 1)) v2 (.d (.int c)) (.d (tq qs)) (.d (.ptr S2.length)) (.d (.str t')) w7 (.d (errD (readR (LS t')))) t' (S8.length + 1) m11
  refine ⟨rest', S11, .d (.int c), .d (tq qs), .d (.ptr S2.length), .d (.str t'), w7, .d (resD (readR (LS t'))), .d (.ptr (S8.length + 1)), .d (errD (readR (LS t'))), ?_, n11⟩
  unfold b_law_2
  rw [seq_nx e1, seq_nx e2, seq_nx e5, seq_nx e6, seq_nx e8, seq_nx e10, seq_nx e11, seq_nx e12, e14]
theorem law_loop (hne : errP a) : ∀ (ks : List D) (rest S : Store) (v0 v2 v3 v4 v5 v6 v7 v8 v9 v10 : SV), Nx rest S → ∃ (S' : Store) (z' : Sl), loop (gN 2) (b_law_2 a) ks [v0, .d (.ptr 1), v2, v3, v4, v5, v6, v7, v8, v9, v10] S = .nx z' S'
  | [], rest, S, v0, v2, v3, v4, v5, v6, v7, v8, v9, v10, h => ⟨S, _, rfl⟩
  | k :: ks, rest, S, v0, v2, v3, v4, v5, v6, v7, v8, v9, v10, h => by
    obtain ⟨rest', S1, w3, w4, w5, w6, w7, w8, w9, w10, e1, n1⟩ := law_turn a v0 (.d k) v3 v4 v5 v6 v7 v8 v9 v10 hne h
    obtain ⟨S2, z2, e2⟩ := law_loop hne ks rest' S1 v0 (.d k) w3 w4 w5 w6 w7 w8 w9 w10 n1
    refine ⟨S2, z2, ?_⟩
    rw [loop_cons (sa := b_law_2 a) (g := gN 2) (z := [v0, .d (.ptr 1), v2, v3, v4, v5, v6, v7, v8, v9, v10]) rfl e1]
    exact e2
theorem law_true (hne : a.C_InvalidText ≠ a.C_InvalidTown) (ns : List Int) (h : ns.length ≤ 63) : ∃ S', g_law a [.scr ns] [] = .ok (.bl true) S' := by
  obtain ⟨m, em⟩ := mix_ok a ns h 2
  have n0 : Nx [] [.lst (ns.map D.int), .lst [.int m, .ptr 0, .int 0]] := ⟨m, 0, ns, h, rfl⟩
  obtain ⟨S', z', e⟩ := law_loop a hne ((List.range' 0 6).map fun (k : Nat) => D.int (k : Int)) [] _ (.d (.scr ns)) .u .u .u .u .u .u .u .u .u n0
  refine ⟨S', run_rt ?_⟩
  show c_law a [.d (.scr ns), .u, .u, .u, .u, .u, .u, .u, .u, .u, .u] [] = _
  have s1 : q_law_1 a [.d (.scr ns), .u, .u, .u, .u, .u, .u, .u, .u, .u, .u] [] = .nx [.d (.scr ns), .d (.ptr 1), .u, .u, .u, .u, .u, .u, .u, .u, .u] [.lst (ns.map D.int), .lst [.int m, .ptr 0, .int 0]] := by
    unfold q_law_1
    simp [em]
  have src : CL.iRange1 (cK (.int 6)) [.d (.scr ns), .d (.ptr 1), .u, .u, .u, .u, .u, .u, .u, .u, .u] [.lst (ns.map D.int), .lst [.int m, .ptr 0, .int 0]] = .ok ((List.range' 0 6).map fun (k : Nat) => D.int (k : Int)) [.lst (ns.map D.int), .lst [.int m, .ptr 0, .int 0]] := iRange1_nat (n := 6) rfl (by decide)
  have s2 : q_law_2 a [.d (.scr ns), .d (.ptr 1), .u, .u, .u, .u, .u, .u, .u, .u, .u] [.lst (ns.map D.int), .lst [.int m, .ptr 0, .int 0]] = .nx z' S' := by
    unfold q_law_2
    rw [ev_for, src]
    exact e
  unfold c_law
  rw [seq_nx s1, seq_nx s2]
  rfl
end
end Law
namespace Law
open PySem PySem.Spec PyProof.Rows L2 CL
section
variable [TheK]
theorem all_mk {l : PySem.W.OpenLaw} {w : World} {mg : Str → Option Value} {fa : Addr} {h : Heap} (KX : TheK.K.In h) (G : h.Ns mainGlobals mg) (hfa : mg "law" = some (.ref fa)) (own : LamX.OwnTab TheK.K fa h)
    {C_Town : Addr}
    {C_InvalidTown : Addr}
    {C_InvalidText : Addr}
    {C_InvalidTrips : Addr}
    {C_InvalidLoad : Addr}
    {C_InvalidLife : Addr}
    {C_InvalidCount : Addr}
    {C_UnknownKind : Addr}
    {C_UnknownBridge : Addr}
    {C_UnknownPlace : Addr}
    {C_Contradiction : Addr}
    {C_DifferentTowns : Addr}
    {C_TooManyBridges : Addr}
    {C_BridgeError : Addr}
    {f_law_mix : Addr} {od_law_mix an_law_mix : Option Addr} {sl_law_mix : Array (Option Value)} {oc_law_mix kV_law_mix dc_law_mix pm_law_mix cd_law_mix ct_law_mix : Value}
    {f_law_next : Addr} {od_law_next an_law_next : Option Addr} {sl_law_next : Array (Option Value)} {oc_law_next kV_law_next dc_law_next pm_law_next cd_law_next ct_law_next : Value}
    {f_law_life : Addr} {od_law_life an_law_life : Option Addr} {sl_law_life : Array (Option Value)} {oc_law_life kV_law_life dc_law_life pm_law_life cd_law_life ct_law_life : Value}
    {f_law_links : Addr} {od_law_links an_law_links : Option Addr} {sl_law_links : Array (Option Value)} {oc_law_links kV_law_links dc_law_links pm_law_links cd_law_links ct_law_links : Value}
    {f_law_text : Addr} {od_law_text an_law_text : Option Addr} {sl_law_text : Array (Option Value)} {oc_law_text kV_law_text dc_law_text pm_law_text cd_law_text ct_law_text : Value}
    {f_Town_is_bridge : Addr} {od_Town_is_bridge an_Town_is_bridge : Option Addr} {sl_Town_is_bridge : Array (Option Value)} {oc_Town_is_bridge kV_Town_is_bridge dc_Town_is_bridge pm_Town_is_bridge cd_Town_is_bridge ct_Town_is_bridge : Value}
    {f_Town__init : Addr} {od_Town__init an_Town__init : Option Addr} {sl_Town__init : Array (Option Value)} {oc_Town__init kV_Town__init dc_Town__init pm_Town__init cd_Town__init ct_Town__init : Value}
    {f_parse_numbers : Addr} {od_parse_numbers an_parse_numbers : Option Addr} {sl_parse_numbers : Array (Option Value)} {oc_parse_numbers kV_parse_numbers dc_parse_numbers pm_parse_numbers cd_parse_numbers ct_parse_numbers : Value}
    {f_Town_parse : Addr} {od_Town_parse an_Town_parse : Option Addr} {sl_Town_parse : Array (Option Value)} {oc_Town_parse kV_Town_parse dc_Town_parse pm_Town_parse cd_Town_parse ct_Town_parse : Value}
    {f_Town_bridges : Addr} {od_Town_bridges an_Town_bridges : Option Addr} {sl_Town_bridges : Array (Option Value)} {oc_Town_bridges kV_Town_bridges dc_Town_bridges pm_Town_bridges cd_Town_bridges ct_Town_bridges : Value}
    {f_law_alike : Addr} {od_law_alike an_law_alike : Option Addr} {sl_law_alike : Array (Option Value)} {oc_law_alike kV_law_alike dc_law_alike pm_law_alike cd_law_alike ct_law_alike : Value}
    {f_Town_text : Addr} {od_Town_text an_Town_text : Option Addr} {sl_Town_text : Array (Option Value)} {oc_Town_text kV_Town_text dc_Town_text pm_Town_text cd_Town_text ct_Town_text : Value}
    {f_law_bent : Addr} {od_law_bent an_law_bent : Option Addr} {sl_law_bent : Array (Option Value)} {oc_law_bent kV_law_bent dc_law_bent pm_law_bent cd_law_bent ct_law_bent : Value}
    {f_law_numbers : Addr} {od_law_numbers an_law_numbers : Option Addr} {sl_law_numbers : Array (Option Value)} {oc_law_numbers kV_law_numbers dc_law_numbers pm_law_numbers cd_law_numbers ct_law_numbers : Value}
    {f_law_read : Addr} {od_law_read an_law_read : Option Addr} {sl_law_read : Array (Option Value)} {oc_law_read kV_law_read dc_law_read pm_law_read cd_law_read ct_law_read : Value}
    {f_law_error : Addr} {od_law_error an_law_error : Option Addr} {sl_law_error : Array (Option Value)} {oc_law_error kV_law_error dc_law_error pm_law_error cd_law_error ct_law_error : Value}
    {f_Town_place_count : Addr} {od_Town_place_count an_Town_place_count : Option Addr} {sl_Town_place_count : Array (Option Value)} {oc_Town_place_count kV_Town_place_count dc_Town_place_count pm_Town_place_count cd_Town_place_count ct_Town_place_count : Value}
    {f_law : Addr} {od_law an_law : Option Addr} {sl_law : Array (Option Value)} {oc_law kV_law dc_law pm_law cd_law ct_law : Value}
    {w_Town_MAX_PLACES : Tok}
    {w_Town_MAX_LIFE : Tok}
    {w_Town_MAX_BRIDGES : Tok}
    {p_Town_is_bridge : Addr} {rs_Town_is_bridge : List Value}
    {p_Town_parse : Addr} {rs_Town_parse : List Value}
    {a_Town_bridges : Addr} {rp_Town_bridges : List Value}
    {a_Town_text : Addr} {rp_Town_text : List Value}
    {a_Town_place_count : Addr} {rp_Town_place_count : List Value}
    {t_MAX_LENGTH : Tok}
    {t_DIGITS : Tok}
    {t_PLACES : Tok}
    {t_BRIDGE : Tok}
    {f_InvalidTown__init : Addr} {od_InvalidTown__init an_InvalidTown__init : Option Addr} {sl_InvalidTown__init : Array (Option Value)} {oc_InvalidTown__init kV_InvalidTown__init dc_InvalidTown__init pm_InvalidTown__init cd_InvalidTown__init ct_InvalidTown__init : Value}
    {nm_InvalidTown qn_InvalidTown : Str} {N_InvalidTown : Addr} {bs_InvalidTown bm_InvalidTown : List Value} {sn_InvalidTown : List Str} {su_InvalidTown : List Value} {ab_InvalidTown : Bool} {co_InvalidTown : Option Bool} {dd_InvalidTown : Option Addr} {ka_InvalidTown kb_InvalidTown ke_InvalidTown kf_InvalidTown kg_InvalidTown : Option Value}
    {f_InvalidText__init : Addr} {od_InvalidText__init an_InvalidText__init : Option Addr} {sl_InvalidText__init : Array (Option Value)} {oc_InvalidText__init kV_InvalidText__init dc_InvalidText__init pm_InvalidText__init cd_InvalidText__init ct_InvalidText__init : Value}
    {nm_InvalidText qn_InvalidText : Str} {N_InvalidText : Addr} {bs_InvalidText bm_InvalidText : List Value} {sn_InvalidText : List Str} {su_InvalidText : List Value} {ab_InvalidText : Bool} {co_InvalidText : Option Bool} {dd_InvalidText : Option Addr} {ka_InvalidText kb_InvalidText ke_InvalidText kf_InvalidText kg_InvalidText : Option Value}
    {lc lP : Addr} {lod : Option Addr} {lvs : Array Value} {lsl : Array (Option Value)} {lfile : Str} {lfl : Int} {lin : Bool} {ltx : Int} {ltf ltg ltt : Tok}
    (aC_Town : PySem.W.nsIn TheK.K mainGlobals ("Town" : Str) = some (some (.ref C_Town)))
    (aC_InvalidTown : PySem.W.nsIn TheK.K mainGlobals ("InvalidTown" : Str) = some (some (.ref C_InvalidTown)))
    (aC_InvalidText : PySem.W.nsIn TheK.K mainGlobals ("InvalidText" : Str) = some (some (.ref C_InvalidText)))
    (aC_InvalidTrips : PySem.W.nsIn TheK.K mainGlobals ("InvalidTrips" : Str) = some (some (.ref C_InvalidTrips)))
    (aC_InvalidLoad : PySem.W.nsIn TheK.K mainGlobals ("InvalidLoad" : Str) = some (some (.ref C_InvalidLoad)))
    (aC_InvalidLife : PySem.W.nsIn TheK.K mainGlobals ("InvalidLife" : Str) = some (some (.ref C_InvalidLife)))
    (aC_InvalidCount : PySem.W.nsIn TheK.K mainGlobals ("InvalidCount" : Str) = some (some (.ref C_InvalidCount)))
    (aC_UnknownKind : PySem.W.nsIn TheK.K mainGlobals ("UnknownKind" : Str) = some (some (.ref C_UnknownKind)))
    (aC_UnknownBridge : PySem.W.nsIn TheK.K mainGlobals ("UnknownBridge" : Str) = some (some (.ref C_UnknownBridge)))
    (aC_UnknownPlace : PySem.W.nsIn TheK.K mainGlobals ("UnknownPlace" : Str) = some (some (.ref C_UnknownPlace)))
    (aC_Contradiction : PySem.W.nsIn TheK.K mainGlobals ("Contradiction" : Str) = some (some (.ref C_Contradiction)))
    (aC_DifferentTowns : PySem.W.nsIn TheK.K mainGlobals ("DifferentTowns" : Str) = some (some (.ref C_DifferentTowns)))
    (aC_TooManyBridges : PySem.W.nsIn TheK.K mainGlobals ("TooManyBridges" : Str) = some (some (.ref C_TooManyBridges)))
    (aC_BridgeError : PySem.W.nsIn TheK.K mainGlobals ("BridgeError" : Str) = some (some (.ref C_BridgeError)))
    (a_law_mix : PySem.W.nsIn TheK.K mainGlobals ("_law_mix" : Str) = some (some (.ref f_law_mix)))
    (l_law_mix : TheK.K.lookup f_law_mix = some ⟨oc_law_mix, od_law_mix, .func (PySem.W.fnOf ("_law_mix" : Str) ("_law_mix" : Str) (defArgs (top 23)) (defBody (top 23)) (defScope (top 23)) .none kV_law_mix dc_law_mix pm_law_mix an_law_mix cd_law_mix ct_law_mix), sl_law_mix⟩)
    (c_law_mix : PySem.W.codeIn TheK.K cd_law_mix ("_law_mix" : Str) = true)
    (k_law_mix : PySem.W.keepIn TheK.K (.ref f_law_mix) = true)
    (a_law_next : PySem.W.nsIn TheK.K mainGlobals ("_law_next" : Str) = some (some (.ref f_law_next)))
    (l_law_next : TheK.K.lookup f_law_next = some ⟨oc_law_next, od_law_next, .func (PySem.W.fnOf ("_law_next" : Str) ("_law_next" : Str) (defArgs (top 24)) (defBody (top 24)) (defScope (top 24)) .none kV_law_next dc_law_next pm_law_next an_law_next cd_law_next ct_law_next), sl_law_next⟩)
    (c_law_next : PySem.W.codeIn TheK.K cd_law_next ("_law_next" : Str) = true)
    (k_law_next : PySem.W.keepIn TheK.K (.ref f_law_next) = true)
    (a_law_life : PySem.W.nsIn TheK.K mainGlobals ("_law_life" : Str) = some (some (.ref f_law_life)))
    (l_law_life : TheK.K.lookup f_law_life = some ⟨oc_law_life, od_law_life, .func (PySem.W.fnOf ("_law_life" : Str) ("_law_life" : Str) (defArgs (top 27)) (defBody (top 27)) (defScope (top 27)) .none kV_law_life dc_law_life pm_law_life an_law_life cd_law_life ct_law_life), sl_law_life⟩)
    (c_law_life : PySem.W.codeIn TheK.K cd_law_life ("_law_life" : Str) = true)
    (k_law_life : PySem.W.keepIn TheK.K (.ref f_law_life) = true)
    (a_law_links : PySem.W.nsIn TheK.K mainGlobals ("_law_links" : Str) = some (some (.ref f_law_links)))
    (l_law_links : TheK.K.lookup f_law_links = some ⟨oc_law_links, od_law_links, .func (PySem.W.fnOf ("_law_links" : Str) ("_law_links" : Str) (defArgs (top 28)) (defBody (top 28)) (defScope (top 28)) .none kV_law_links dc_law_links pm_law_links an_law_links cd_law_links ct_law_links), sl_law_links⟩)
    (c_law_links : PySem.W.codeIn TheK.K cd_law_links ("_law_links" : Str) = true)
    (k_law_links : PySem.W.keepIn TheK.K (.ref f_law_links) = true)
    (a_law_text : PySem.W.nsIn TheK.K mainGlobals ("_law_text" : Str) = some (some (.ref f_law_text)))
    (l_law_text : TheK.K.lookup f_law_text = some ⟨oc_law_text, od_law_text, .func (PySem.W.fnOf ("_law_text" : Str) ("_law_text" : Str) (defArgs (top 30)) (defBody (top 30)) (defScope (top 30)) .none kV_law_text dc_law_text pm_law_text an_law_text cd_law_text ct_law_text), sl_law_text⟩)
    (c_law_text : PySem.W.codeIn TheK.K cd_law_text ("_law_text" : Str) = true)
    (k_law_text : PySem.W.keepIn TheK.K (.ref f_law_text) = true)
    (l_Town_is_bridge : TheK.K.lookup f_Town_is_bridge = some ⟨oc_Town_is_bridge, od_Town_is_bridge, .func (PySem.W.fnOf ("is_bridge" : Str) ("Town.is_bridge" : Str) (defArgs (inClass (top 21) 4)) (defBody (inClass (top 21) 4)) (defScope (inClass (top 21) 4)) .none kV_Town_is_bridge dc_Town_is_bridge pm_Town_is_bridge an_Town_is_bridge cd_Town_is_bridge ct_Town_is_bridge), sl_Town_is_bridge⟩)
    (c_Town_is_bridge : PySem.W.codeIn TheK.K cd_Town_is_bridge ("Town.is_bridge" : Str) = true)
    (k_Town_is_bridge : PySem.W.keepIn TheK.K (.ref f_Town_is_bridge) = true)
    (l_Town__init : TheK.K.lookup f_Town__init = some ⟨oc_Town__init, od_Town__init, .func (PySem.W.fnOf ("__init__" : Str) ("Town.__init__" : Str) (defArgs (inClass (top 21) 3)) (defBody (inClass (top 21) 3)) (defScope (inClass (top 21) 3)) .none kV_Town__init dc_Town__init pm_Town__init an_Town__init cd_Town__init ct_Town__init), sl_Town__init⟩)
    (c_Town__init : PySem.W.codeIn TheK.K cd_Town__init ("Town.__init__" : Str) = true)
    (k_Town__init : PySem.W.keepIn TheK.K (.ref f_Town__init) = true)
    (at_Town__init : PySem.W.findIn TheK.K (.ref C_Town) "__init__" = some (some (.ref f_Town__init)))
    (fn_Town__init : PySem.W.isFn TheK.K (.ref f_Town__init) = true)
    (a_parse_numbers : PySem.W.nsIn TheK.K mainGlobals ("parse_numbers" : Str) = some (some (.ref f_parse_numbers)))
    (l_parse_numbers : TheK.K.lookup f_parse_numbers = some ⟨oc_parse_numbers, od_parse_numbers, .func (PySem.W.fnOf ("parse_numbers" : Str) ("parse_numbers" : Str) (defArgs (top 20)) (defBody (top 20)) (defScope (top 20)) .none kV_parse_numbers dc_parse_numbers pm_parse_numbers an_parse_numbers cd_parse_numbers ct_parse_numbers), sl_parse_numbers⟩)
    (c_parse_numbers : PySem.W.codeIn TheK.K cd_parse_numbers ("parse_numbers" : Str) = true)
    (k_parse_numbers : PySem.W.keepIn TheK.K (.ref f_parse_numbers) = true)
    (l_Town_parse : TheK.K.lookup f_Town_parse = some ⟨oc_Town_parse, od_Town_parse, .func (PySem.W.fnOf ("parse" : Str) ("Town.parse" : Str) (defArgs (inClass (top 21) 5)) (defBody (inClass (top 21) 5)) (defScope (inClass (top 21) 5)) .none kV_Town_parse dc_Town_parse pm_Town_parse an_Town_parse cd_Town_parse ct_Town_parse), sl_Town_parse⟩)
    (c_Town_parse : PySem.W.codeIn TheK.K cd_Town_parse ("Town.parse" : Str) = true)
    (k_Town_parse : PySem.W.keepIn TheK.K (.ref f_Town_parse) = true)
    (l_Town_bridges : TheK.K.lookup f_Town_bridges = some ⟨oc_Town_bridges, od_Town_bridges, .func (PySem.W.fnOf ("bridges" : Str) ("Town.bridges" : Str) (defArgs (inClass (top 21) 7)) (defBody (inClass (top 21) 7)) (defScope (inClass (top 21) 7)) .none kV_Town_bridges dc_Town_bridges pm_Town_bridges an_Town_bridges cd_Town_bridges ct_Town_bridges), sl_Town_bridges⟩)
    (c_Town_bridges : PySem.W.codeIn TheK.K cd_Town_bridges ("Town.bridges" : Str) = true)
    (k_Town_bridges : PySem.W.keepIn TheK.K (.ref f_Town_bridges) = true)
    (a_law_alike : PySem.W.nsIn TheK.K mainGlobals ("_law_alike" : Str) = some (some (.ref f_law_alike)))
    (l_law_alike : TheK.K.lookup f_law_alike = some ⟨oc_law_alike, od_law_alike, .func (PySem.W.fnOf ("_law_alike" : Str) ("_law_alike" : Str) (defArgs (top 25)) (defBody (top 25)) (defScope (top 25)) .none kV_law_alike dc_law_alike pm_law_alike an_law_alike cd_law_alike ct_law_alike), sl_law_alike⟩)
    (c_law_alike : PySem.W.codeIn TheK.K cd_law_alike ("_law_alike" : Str) = true)
    (k_law_alike : PySem.W.keepIn TheK.K (.ref f_law_alike) = true)
    (l_Town_text : TheK.K.lookup f_Town_text = some ⟨oc_Town_text, od_Town_text, .func (PySem.W.fnOf ("text" : Str) ("Town.text" : Str) (defArgs (inClass (top 21) 9)) (defBody (inClass (top 21) 9)) (defScope (inClass (top 21) 9)) .none kV_Town_text dc_Town_text pm_Town_text an_Town_text cd_Town_text ct_Town_text), sl_Town_text⟩)
    (c_Town_text : PySem.W.codeIn TheK.K cd_Town_text ("Town.text" : Str) = true)
    (k_Town_text : PySem.W.keepIn TheK.K (.ref f_Town_text) = true)
    (a_law_bent : PySem.W.nsIn TheK.K mainGlobals ("_law_bent" : Str) = some (some (.ref f_law_bent)))
    (l_law_bent : TheK.K.lookup f_law_bent = some ⟨oc_law_bent, od_law_bent, .func (PySem.W.fnOf ("_law_bent" : Str) ("_law_bent" : Str) (defArgs (top 33)) (defBody (top 33)) (defScope (top 33)) .none kV_law_bent dc_law_bent pm_law_bent an_law_bent cd_law_bent ct_law_bent), sl_law_bent⟩)
    (c_law_bent : PySem.W.codeIn TheK.K cd_law_bent ("_law_bent" : Str) = true)
    (k_law_bent : PySem.W.keepIn TheK.K (.ref f_law_bent) = true)
    (a_law_numbers : PySem.W.nsIn TheK.K mainGlobals ("_law_numbers" : Str) = some (some (.ref f_law_numbers)))
    (l_law_numbers : TheK.K.lookup f_law_numbers = some ⟨oc_law_numbers, od_law_numbers, .func (PySem.W.fnOf ("_law_numbers" : Str) ("_law_numbers" : Str) (defArgs (top 31)) (defBody (top 31)) (defScope (top 31)) .none kV_law_numbers dc_law_numbers pm_law_numbers an_law_numbers cd_law_numbers ct_law_numbers), sl_law_numbers⟩)
    (c_law_numbers : PySem.W.codeIn TheK.K cd_law_numbers ("_law_numbers" : Str) = true)
    (k_law_numbers : PySem.W.keepIn TheK.K (.ref f_law_numbers) = true)
    (a_law_read : PySem.W.nsIn TheK.K mainGlobals ("_law_read" : Str) = some (some (.ref f_law_read)))
    (l_law_read : TheK.K.lookup f_law_read = some ⟨oc_law_read, od_law_read, .func (PySem.W.fnOf ("_law_read" : Str) ("_law_read" : Str) (defArgs (top 32)) (defBody (top 32)) (defScope (top 32)) .none kV_law_read dc_law_read pm_law_read an_law_read cd_law_read ct_law_read), sl_law_read⟩)
    (c_law_read : PySem.W.codeIn TheK.K cd_law_read ("_law_read" : Str) = true)
    (k_law_read : PySem.W.keepIn TheK.K (.ref f_law_read) = true)
    (a_law_error : PySem.W.nsIn TheK.K mainGlobals ("_law_error" : Str) = some (some (.ref f_law_error)))
    (l_law_error : TheK.K.lookup f_law_error = some ⟨oc_law_error, od_law_error, .func (PySem.W.fnOf ("_law_error" : Str) ("_law_error" : Str) (defArgs (top 26)) (defBody (top 26)) (defScope (top 26)) .none kV_law_error dc_law_error pm_law_error an_law_error cd_law_error ct_law_error), sl_law_error⟩)
    (c_law_error : PySem.W.codeIn TheK.K cd_law_error ("_law_error" : Str) = true)
    (k_law_error : PySem.W.keepIn TheK.K (.ref f_law_error) = true)
    (l_Town_place_count : TheK.K.lookup f_Town_place_count = some ⟨oc_Town_place_count, od_Town_place_count, .func (PySem.W.fnOf ("place_count" : Str) ("Town.place_count" : Str) (defArgs (inClass (top 21) 6)) (defBody (inClass (top 21) 6)) (defScope (inClass (top 21) 6)) .none kV_Town_place_count dc_Town_place_count pm_Town_place_count an_Town_place_count cd_Town_place_count ct_Town_place_count), sl_Town_place_count⟩)
    (c_Town_place_count : PySem.W.codeIn TheK.K cd_Town_place_count ("Town.place_count" : Str) = true)
    (k_Town_place_count : PySem.W.keepIn TheK.K (.ref f_Town_place_count) = true)
    (a_law : PySem.W.nsIn TheK.K mainGlobals ("law" : Str) = some (some (.ref f_law)))
    (l_law : TheK.K.lookup f_law = some ⟨oc_law, od_law, .func (PySem.W.fnOf ("law" : Str) ("law" : Str) (defArgs (top 34)) (defBody (top 34)) (defScope (top 34)) .none kV_law dc_law pm_law an_law cd_law ct_law), sl_law⟩)
    (c_law : PySem.W.codeIn TheK.K cd_law ("law" : Str) = true)
    (k_law : PySem.W.keepIn TheK.K (.ref f_law) = true)
    (rd_Town : PySem.W.readsIn TheK.K C_Town (.type "type") = true)
    (ga_Town : PySem.W.specialIn TheK.K (.ref C_Town) "__getattribute__" = some (some (.builtin "type.__getattribute__")))
    (rd_BridgeError : PySem.W.readsIn TheK.K C_BridgeError (.type "type") = true)
    (ga_BridgeError : PySem.W.specialIn TheK.K (.ref C_BridgeError) "__getattribute__" = some (some (.builtin "type.__getattribute__")))
    (cv_Town_MAX_PLACES : PySem.W.findCls TheK.K (.ref C_Town) (.type "type") ("MAX_PLACES" : Str) = some (.val (.int 12 w_Town_MAX_PLACES)))
    (cv_Town_MAX_LIFE : PySem.W.findCls TheK.K (.ref C_Town) (.type "type") ("MAX_LIFE" : Str) = some (.val (.int 1000000000000000000 w_Town_MAX_LIFE)))
    (cv_Town_MAX_BRIDGES : PySem.W.findCls TheK.K (.ref C_Town) (.type "type") ("MAX_BRIDGES" : Str) = some (.val (.int 24 w_Town_MAX_BRIDGES)))
    (sa_Town_is_bridge : PySem.W.findCls TheK.K (.ref C_Town) (.type "type") ("is_bridge" : Str) = some (.get (.builtin "staticmethod.__get__") (.ref p_Town_is_bridge) .none (.ref C_Town)))
    (sr_Town_is_bridge : PySem.W.recIn TheK.K p_Town_is_bridge "staticmethod" = some (.ref f_Town_is_bridge :: rs_Town_is_bridge))
    (sa_Town_parse : PySem.W.findCls TheK.K (.ref C_Town) (.type "type") ("parse" : Str) = some (.get (.builtin "classmethod.__get__") (.ref p_Town_parse) .none (.ref C_Town)))
    (sr_Town_parse : PySem.W.recIn TheK.K p_Town_parse "classmethod" = some (.ref f_Town_parse :: rs_Town_parse))
    (sf_Town_parse : PySem.W.fnIn TheK.K f_Town_parse = true)
    (pg_Town : PySem.W.plainGet TheK.K C_Town Str.empty = true)
    (hd_Town : PySem.W.hasDictIn TheK.K C_Town = true)
    (po_Town : PySem.W.plainOver TheK.K C_Town = true)
    (st_Town : PySem.W.findIn TheK.K (.ref C_Town) "__setattr__" = some (some (.builtin "object.__setattr__")))
    (mk_Town : PySem.W.makesIn TheK.K C_Town = true)
    (kc_Town : PySem.W.keepIn TheK.K (.ref C_Town) = true)
    (na_Town_size : PySem.W.findIn TheK.K (.ref C_Town) ("size" : Str) = some none)
    (na_Town_links : PySem.W.findIn TheK.K (.ref C_Town) ("links" : Str) = some none)
    (na_InvalidTown_index : PySem.W.findIn TheK.K (.ref C_InvalidTown) ("index" : Str) = some none)
    (na_InvalidTown_part : PySem.W.findIn TheK.K (.ref C_InvalidTown) ("part" : Str) = some none)
    (na_InvalidText_row : PySem.W.findIn TheK.K (.ref C_InvalidText) ("row" : Str) = some none)
    (na_InvalidTrips_index : PySem.W.findIn TheK.K (.ref C_InvalidTrips) ("index" : Str) = some none)
    (xg_InvalidTown : PySem.W.findIn TheK.K (.ref C_InvalidTown) "__getattribute__" = some (some (.builtin "BaseException.__getattribute__")))
    (xh_InvalidTown : PySem.W.findIn TheK.K (.ref C_InvalidTown) "__getattr__" = some none)
    (xg_InvalidText : PySem.W.findIn TheK.K (.ref C_InvalidText) "__getattribute__" = some (some (.builtin "BaseException.__getattribute__")))
    (xh_InvalidText : PySem.W.findIn TheK.K (.ref C_InvalidText) "__getattr__" = some none)
    (xg_InvalidTrips : PySem.W.findIn TheK.K (.ref C_InvalidTrips) "__getattribute__" = some (some (.builtin "BaseException.__getattribute__")))
    (xh_InvalidTrips : PySem.W.findIn TheK.K (.ref C_InvalidTrips) "__getattr__" = some none)
    (xb_InvalidTown : PySem.W.subIn TheK.K (.ref C_InvalidTown) (.type "BaseException") = some true)
    (xd_InvalidTown : PySem.W.hasDictIn TheK.K C_InvalidTown = true)
    (xt_InvalidTown : PySem.W.typeIn TheK.K (.ref C_InvalidTown) = some (.type "type"))
    (xb_InvalidText : PySem.W.subIn TheK.K (.ref C_InvalidText) (.type "BaseException") = some true)
    (xd_InvalidText : PySem.W.hasDictIn TheK.K C_InvalidText = true)
    (xt_InvalidText : PySem.W.typeIn TheK.K (.ref C_InvalidText) = some (.type "type"))
    (xb_InvalidTrips : PySem.W.subIn TheK.K (.ref C_InvalidTrips) (.type "BaseException") = some true)
    (xd_InvalidTrips : PySem.W.hasDictIn TheK.K C_InvalidTrips = true)
    (xt_InvalidTrips : PySem.W.typeIn TheK.K (.ref C_InvalidTrips) = some (.type "type"))
    (xb_InvalidCount : PySem.W.subIn TheK.K (.ref C_InvalidCount) (.type "BaseException") = some true)
    (xd_InvalidCount : PySem.W.hasDictIn TheK.K C_InvalidCount = true)
    (xt_InvalidCount : PySem.W.typeIn TheK.K (.ref C_InvalidCount) = some (.type "type"))
    (xb_InvalidLife : PySem.W.subIn TheK.K (.ref C_InvalidLife) (.type "BaseException") = some true)
    (xd_InvalidLife : PySem.W.hasDictIn TheK.K C_InvalidLife = true)
    (xt_InvalidLife : PySem.W.typeIn TheK.K (.ref C_InvalidLife) = some (.type "type"))
    (xb_InvalidLoad : PySem.W.subIn TheK.K (.ref C_InvalidLoad) (.type "BaseException") = some true)
    (xd_InvalidLoad : PySem.W.hasDictIn TheK.K C_InvalidLoad = true)
    (xt_InvalidLoad : PySem.W.typeIn TheK.K (.ref C_InvalidLoad) = some (.type "type"))
    (xb_UnknownPlace : PySem.W.subIn TheK.K (.ref C_UnknownPlace) (.type "BaseException") = some true)
    (xd_UnknownPlace : PySem.W.hasDictIn TheK.K C_UnknownPlace = true)
    (xt_UnknownPlace : PySem.W.typeIn TheK.K (.ref C_UnknownPlace) = some (.type "type"))
    (xb_UnknownBridge : PySem.W.subIn TheK.K (.ref C_UnknownBridge) (.type "BaseException") = some true)
    (xd_UnknownBridge : PySem.W.hasDictIn TheK.K C_UnknownBridge = true)
    (xt_UnknownBridge : PySem.W.typeIn TheK.K (.ref C_UnknownBridge) = some (.type "type"))
    (xb_UnknownKind : PySem.W.subIn TheK.K (.ref C_UnknownKind) (.type "BaseException") = some true)
    (xd_UnknownKind : PySem.W.hasDictIn TheK.K C_UnknownKind = true)
    (xt_UnknownKind : PySem.W.typeIn TheK.K (.ref C_UnknownKind) = some (.type "type"))
    (xb_TooManyBridges : PySem.W.subIn TheK.K (.ref C_TooManyBridges) (.type "BaseException") = some true)
    (xd_TooManyBridges : PySem.W.hasDictIn TheK.K C_TooManyBridges = true)
    (xt_TooManyBridges : PySem.W.typeIn TheK.K (.ref C_TooManyBridges) = some (.type "type"))
    (xb_DifferentTowns : PySem.W.subIn TheK.K (.ref C_DifferentTowns) (.type "BaseException") = some true)
    (xd_DifferentTowns : PySem.W.hasDictIn TheK.K C_DifferentTowns = true)
    (xt_DifferentTowns : PySem.W.typeIn TheK.K (.ref C_DifferentTowns) = some (.type "type"))
    (xb_Contradiction : PySem.W.subIn TheK.K (.ref C_Contradiction) (.type "BaseException") = some true)
    (xd_Contradiction : PySem.W.hasDictIn TheK.K C_Contradiction = true)
    (xt_Contradiction : PySem.W.typeIn TheK.K (.ref C_Contradiction) = some (.type "type"))
    (xb_BridgeError : PySem.W.subIn TheK.K (.ref C_BridgeError) (.type "BaseException") = some true)
    (xd_BridgeError : PySem.W.hasDictIn TheK.K C_BridgeError = true)
    (xt_BridgeError : PySem.W.typeIn TheK.K (.ref C_BridgeError) = some (.type "type"))
    (pa_Town_bridges : PySem.W.findIn TheK.K (.ref C_Town) ("bridges" : Str) = some (some (.ref a_Town_bridges)))
    (pb_Town_bridges : PySem.W.specialIn TheK.K (.ref a_Town_bridges) "__get__" = some (some (.builtin "property.__get__")))
    (pc_Town_bridges : PySem.W.takesIn TheK.K (.ref a_Town_bridges) = some true)
    (pd_Town_bridges : PySem.W.recIn TheK.K a_Town_bridges "property" = some (.ref f_Town_bridges :: rp_Town_bridges))
    (pa_Town_text : PySem.W.findIn TheK.K (.ref C_Town) ("text" : Str) = some (some (.ref a_Town_text)))
    (pb_Town_text : PySem.W.specialIn TheK.K (.ref a_Town_text) "__get__" = some (some (.builtin "property.__get__")))
    (pc_Town_text : PySem.W.takesIn TheK.K (.ref a_Town_text) = some true)
    (pd_Town_text : PySem.W.recIn TheK.K a_Town_text "property" = some (.ref f_Town_text :: rp_Town_text))
    (pa_Town_place_count : PySem.W.findIn TheK.K (.ref C_Town) ("place_count" : Str) = some (some (.ref a_Town_place_count)))
    (pb_Town_place_count : PySem.W.specialIn TheK.K (.ref a_Town_place_count) "__get__" = some (some (.builtin "property.__get__")))
    (pc_Town_place_count : PySem.W.takesIn TheK.K (.ref a_Town_place_count) = some true)
    (pd_Town_place_count : PySem.W.recIn TheK.K a_Town_place_count "property" = some (.ref f_Town_place_count :: rp_Town_place_count))
    (g_MAX_LENGTH : PySem.W.nsIn TheK.K mainGlobals ("MAX_LENGTH" : Str) = some (some (.int 99 t_MAX_LENGTH)))
    (g_DIGITS : PySem.W.nsIn TheK.K mainGlobals ("DIGITS" : Str) = some (some (.str ("0123456789" : Str) t_DIGITS)))
    (g_PLACES : PySem.W.nsIn TheK.K mainGlobals ("PLACES" : Str) = some (some (.str ("places" : Str) t_PLACES)))
    (g_BRIDGE : PySem.W.nsIn TheK.K mainGlobals ("BRIDGE" : Str) = some (some (.str ("bridge" : Str) t_BRIDGE)))
    (z_list : PySem.W.nsIn TheK.K mainGlobals ("list" : Str) = some none)
    (z_range : PySem.W.nsIn TheK.K mainGlobals ("range" : Str) = some none)
    (z_int : PySem.W.nsIn TheK.K mainGlobals ("int" : Str) = some none)
    (z_max : PySem.W.nsIn TheK.K mainGlobals ("max" : Str) = some none)
    (z_len : PySem.W.nsIn TheK.K mainGlobals ("len" : Str) = some none)
    (z_tuple : PySem.W.nsIn TheK.K mainGlobals ("tuple" : Str) = some none)
    (z_str : PySem.W.nsIn TheK.K mainGlobals ("str" : Str) = some none)
    (z_enumerate : PySem.W.nsIn TheK.K mainGlobals ("enumerate" : Str) = some none)
    (z_isinstance : PySem.W.nsIn TheK.K mainGlobals ("isinstance" : Str) = some none)
    (z_dict : PySem.W.nsIn TheK.K mainGlobals ("dict" : Str) = some none)
    (z_bool : PySem.W.nsIn TheK.K mainGlobals ("bool" : Str) = some none)
    (z_ValueError : PySem.W.nsIn TheK.K mainGlobals ("ValueError" : Str) = some none)
    (bi_BridgeError : PySem.W.findCls TheK.K (.ref C_BridgeError) (.type "type") "__init__" = some (.val (.builtin "ValueError.__init__")))
    (kc_InvalidTown : PySem.W.keepIn TheK.K (.ref C_InvalidTown) = true)
    (l_InvalidTown__init : TheK.K.lookup f_InvalidTown__init = some ⟨oc_InvalidTown__init, od_InvalidTown__init, .func (PySem.W.fnOf ("__init__" : Str) ("InvalidTown.__init__" : Str) (defArgs (inClass (top 3) 0)) (defBody (inClass (top 3) 0)) (defScope (inClass (top 3) 0)) .none kV_InvalidTown__init dc_InvalidTown__init pm_InvalidTown__init an_InvalidTown__init cd_InvalidTown__init ct_InvalidTown__init), sl_InvalidTown__init⟩)
    (c_InvalidTown__init : PySem.W.codeIn TheK.K cd_InvalidTown__init ("InvalidTown.__init__" : Str) = true)
    (k_InvalidTown__init : PySem.W.keepIn TheK.K (.ref f_InvalidTown__init) = true)
    (at_InvalidTown__init : PySem.W.findIn TheK.K (.ref C_InvalidTown) "__init__" = some (some (.ref f_InvalidTown__init)))
    (ty_InvalidTown__init : PySem.W.typeIn TheK.K (.ref f_InvalidTown__init) = some (.type "function"))
    (sa_InvalidTown : PySem.W.findIn TheK.K (.ref C_InvalidTown) "__setattr__" = some (some (.builtin "object.__setattr__")))
    (ox_InvalidTown : TheK.K.lookup C_InvalidTown = some (excClassObj nm_InvalidTown qn_InvalidTown C_InvalidTown N_InvalidTown bs_InvalidTown bm_InvalidTown true sn_InvalidTown su_InvalidTown ab_InvalidTown co_InvalidTown dd_InvalidTown ka_InvalidTown kb_InvalidTown ke_InvalidTown kf_InvalidTown kg_InvalidTown "ValueError.__new__"))
    (bm_InvalidTown : PySem.HandSPX.refsVE bm_InvalidTown = true)
    (kc_InvalidText : PySem.W.keepIn TheK.K (.ref C_InvalidText) = true)
    (l_InvalidText__init : TheK.K.lookup f_InvalidText__init = some ⟨oc_InvalidText__init, od_InvalidText__init, .func (PySem.W.fnOf ("__init__" : Str) ("InvalidText.__init__" : Str) (defArgs (inClass (top 4) 0)) (defBody (inClass (top 4) 0)) (defScope (inClass (top 4) 0)) .none kV_InvalidText__init dc_InvalidText__init pm_InvalidText__init an_InvalidText__init cd_InvalidText__init ct_InvalidText__init), sl_InvalidText__init⟩)
    (c_InvalidText__init : PySem.W.codeIn TheK.K cd_InvalidText__init ("InvalidText.__init__" : Str) = true)
    (k_InvalidText__init : PySem.W.keepIn TheK.K (.ref f_InvalidText__init) = true)
    (at_InvalidText__init : PySem.W.findIn TheK.K (.ref C_InvalidText) "__init__" = some (some (.ref f_InvalidText__init)))
    (ty_InvalidText__init : PySem.W.typeIn TheK.K (.ref f_InvalidText__init) = some (.type "function"))
    (sa_InvalidText : PySem.W.findIn TheK.K (.ref C_InvalidText) "__setattr__" = some (some (.builtin "object.__setattr__")))
    (ox_InvalidText : TheK.K.lookup C_InvalidText = some (excClassObj nm_InvalidText qn_InvalidText C_InvalidText N_InvalidText bs_InvalidText bm_InvalidText true sn_InvalidText su_InvalidText ab_InvalidText co_InvalidText dd_InvalidText ka_InvalidText kb_InvalidText ke_InvalidText kf_InvalidText kg_InvalidText "ValueError.__new__"))
    (bm_InvalidText : PySem.HandSPX.refsVE bm_InvalidText = true)
    (xa_InvalidTown : PySem.W.findIn TheK.K (.ref C_InvalidTown) "__class__" = some (some (.builtin "object.__class__")))
    (xm_InvalidTown : PySem.W.mroIn TheK.K C_InvalidTown (.type "object") = some true)
    (ss_InvalidTown_InvalidTown : PySem.W.subIn TheK.K (.ref C_InvalidTown) (.ref C_InvalidTown) = some true)
    (ss_InvalidTown_InvalidText : PySem.W.subIn TheK.K (.ref C_InvalidTown) (.ref C_InvalidText) = some false)
    (ss_InvalidTown_InvalidTrips : PySem.W.subIn TheK.K (.ref C_InvalidTown) (.ref C_InvalidTrips) = some false)
    (ss_InvalidTown_InvalidCount : PySem.W.subIn TheK.K (.ref C_InvalidTown) (.ref C_InvalidCount) = some false)
    (ss_InvalidTown_InvalidLife : PySem.W.subIn TheK.K (.ref C_InvalidTown) (.ref C_InvalidLife) = some false)
    (ss_InvalidTown_InvalidLoad : PySem.W.subIn TheK.K (.ref C_InvalidTown) (.ref C_InvalidLoad) = some false)
    (ss_InvalidTown_UnknownPlace : PySem.W.subIn TheK.K (.ref C_InvalidTown) (.ref C_UnknownPlace) = some false)
    (ss_InvalidTown_UnknownBridge : PySem.W.subIn TheK.K (.ref C_InvalidTown) (.ref C_UnknownBridge) = some false)
    (ss_InvalidTown_UnknownKind : PySem.W.subIn TheK.K (.ref C_InvalidTown) (.ref C_UnknownKind) = some false)
    (ss_InvalidTown_TooManyBridges : PySem.W.subIn TheK.K (.ref C_InvalidTown) (.ref C_TooManyBridges) = some false)
    (ss_InvalidTown_DifferentTowns : PySem.W.subIn TheK.K (.ref C_InvalidTown) (.ref C_DifferentTowns) = some false)
    (ss_InvalidTown_Contradiction : PySem.W.subIn TheK.K (.ref C_InvalidTown) (.ref C_Contradiction) = some false)
    (ss_InvalidTown_ValueError : PySem.W.subIn TheK.K (.ref C_InvalidTown) (.type "ValueError") = some true)
    (ss_InvalidTown_BridgeError : PySem.W.subIn TheK.K (.ref C_InvalidTown) (.ref C_BridgeError) = some true)
    (xa_InvalidText : PySem.W.findIn TheK.K (.ref C_InvalidText) "__class__" = some (some (.builtin "object.__class__")))
    (xm_InvalidText : PySem.W.mroIn TheK.K C_InvalidText (.type "object") = some true)
    (ss_InvalidText_InvalidText : PySem.W.subIn TheK.K (.ref C_InvalidText) (.ref C_InvalidText) = some true)
    (ss_InvalidText_InvalidTown : PySem.W.subIn TheK.K (.ref C_InvalidText) (.ref C_InvalidTown) = some false)
    (ss_InvalidText_InvalidTrips : PySem.W.subIn TheK.K (.ref C_InvalidText) (.ref C_InvalidTrips) = some false)
    (ss_InvalidText_InvalidCount : PySem.W.subIn TheK.K (.ref C_InvalidText) (.ref C_InvalidCount) = some false)
    (ss_InvalidText_InvalidLife : PySem.W.subIn TheK.K (.ref C_InvalidText) (.ref C_InvalidLife) = some false)
    (ss_InvalidText_InvalidLoad : PySem.W.subIn TheK.K (.ref C_InvalidText) (.ref C_InvalidLoad) = some false)
    (ss_InvalidText_UnknownPlace : PySem.W.subIn TheK.K (.ref C_InvalidText) (.ref C_UnknownPlace) = some false)
    (ss_InvalidText_UnknownBridge : PySem.W.subIn TheK.K (.ref C_InvalidText) (.ref C_UnknownBridge) = some false)
    (ss_InvalidText_UnknownKind : PySem.W.subIn TheK.K (.ref C_InvalidText) (.ref C_UnknownKind) = some false)
    (ss_InvalidText_TooManyBridges : PySem.W.subIn TheK.K (.ref C_InvalidText) (.ref C_TooManyBridges) = some false)
    (ss_InvalidText_DifferentTowns : PySem.W.subIn TheK.K (.ref C_InvalidText) (.ref C_DifferentTowns) = some false)
    (ss_InvalidText_Contradiction : PySem.W.subIn TheK.K (.ref C_InvalidText) (.ref C_Contradiction) = some false)
    (ss_InvalidText_ValueError : PySem.W.subIn TheK.K (.ref C_InvalidText) (.type "ValueError") = some true)
    (ss_InvalidText_BridgeError : PySem.W.subIn TheK.K (.ref C_InvalidText) (.ref C_BridgeError) = some true)
    (sp_get : PySem.W.specialIn TheK.K (.builtin "object.__class__") "__get__" = some (some (.builtin "getset_descriptor.__get__")))
    (sp_tak : PySem.W.takesIn TheK.K (.builtin "object.__class__") = some true)
    (hcd : cd_law = .ref lc)
    (lk : TheK.K.lookup lc = some ⟨.type "code", lod, .fields lvs, lsl⟩)
    (v11 : lvs[11]? = some (.ref lP))
    (w11 : lvs.getD 11 .none = .ref lP)
    (v18 : lvs.getD 18 .none = .str lfile ltf)
    (v7 : lvs.getD 7 .none = .int lfl ltg)
    (v9 : lvs.getD 9 .none = .bool lin)
    (v10 : lvs.getD 10 .none = .int ltx ltt)
    (nP : TheK.K.lookup lP = none) :
    LamX.LawAtS l w TheK.K (L2.CX l.prog w) 14 63 "_law_script" mg fa h := by
  have e : f_law = fa := Value.ref.inj (Option.some.inj ((PySem.W.mg_of KX G a_law).symm.trans hfa))
  subst e
  have X : Fx mg ({ f_law_mix := f_law_mix, d_law_mix := PySem.W.fnOf ("_law_mix" : Str) ("_law_mix" : Str) (defArgs (top 23)) (defBody (top 23)) (defScope (top 23)) .none kV_law_mix dc_law_mix pm_law_mix an_law_mix cd_law_mix ct_law_mix, f_law_next := f_law_next, d_law_next := PySem.W.fnOf ("_law_next" : Str) ("_law_next" : Str) (defArgs (top 24)) (defBody (top 24)) (defScope (top 24)) .none kV_law_next dc_law_next pm_law_next an_law_next cd_law_next ct_law_next, f_law_life := f_law_life, d_law_life := PySem.W.fnOf ("_law_life" : Str) ("_law_life" : Str) (defArgs (top 27)) (defBody (top 27)) (defScope (top 27)) .none kV_law_life dc_law_life pm_law_life an_law_life cd_law_life ct_law_life, f_law_links := f_law_links, d_law_links := PySem.W.fnOf ("_law_links" : Str) ("_law_links" : Str) (defArgs (top 28)) (defBody (top 28)) (defScope (top 28)) .none kV_law_links dc_law_links pm_law_links an_law_links cd_law_links ct_law_links, f_law_text := f_law_text, d_law_text := PySem.W.fnOf ("_law_text" : Str) ("_law_text" : Str) (defArgs (top 30)) (defBody (top 30)) (defScope (top 30)) .none kV_law_text dc_law_text pm_law_text an_law_text cd_law_text ct_law_text, f_Town_is_bridge := f_Town_is_bridge, d_Town_is_bridge := PySem.W.fnOf ("is_bridge" : Str) ("Town.is_bridge" : Str) (defArgs (inClass (top 21) 4)) (defBody (inClass (top 21) 4)) (defScope (inClass (top 21) 4)) .none kV_Town_is_bridge dc_Town_is_bridge pm_Town_is_bridge an_Town_is_bridge cd_Town_is_bridge ct_Town_is_bridge, f_Town__init := f_Town__init, d_Town__init := PySem.W.fnOf ("__init__" : Str) ("Town.__init__" : Str) (defArgs (inClass (top 21) 3)) (defBody (inClass (top 21) 3)) (defScope (inClass (top 21) 3)) .none kV_Town__init dc_Town__init pm_Town__init an_Town__init cd_Town__init ct_Town__init, f_parse_numbers := f_parse_numbers, d_parse_numbers := PySem.W.fnOf ("parse_numbers" : Str) ("parse_numbers" : Str) (defArgs (top 20)) (defBody (top 20)) (defScope (top 20)) .none kV_parse_numbers dc_parse_numbers pm_parse_numbers an_parse_numbers cd_parse_numbers ct_parse_numbers, f_Town_parse := f_Town_parse, d_Town_parse := PySem.W.fnOf ("parse" : Str) ("Town.parse" : Str) (defArgs (inClass (top 21) 5)) (defBody (inClass (top 21) 5)) (defScope (inClass (top 21) 5)) .none kV_Town_parse dc_Town_parse pm_Town_parse an_Town_parse cd_Town_parse ct_Town_parse, f_Town_bridges := f_Town_bridges, d_Town_bridges := PySem.W.fnOf ("bridges" : Str) ("Town.bridges" : Str) (defArgs (inClass (top 21) 7)) (defBody (inClass (top 21) 7)) (defScope (inClass (top 21) 7)) .none kV_Town_bridges dc_Town_bridges pm_Town_bridges an_Town_bridges cd_Town_bridges ct_Town_bridges, f_law_alike := f_law_alike, d_law_alike := PySem.W.fnOf ("_law_alike" : Str) ("_law_alike" : Str) (defArgs (top 25)) (defBody (top 25)) (defScope (top 25)) .none kV_law_alike dc_law_alike pm_law_alike an_law_alike cd_law_alike ct_law_alike, f_Town_text := f_Town_text, d_Town_text := PySem.W.fnOf ("text" : Str) ("Town.text" : Str) (defArgs (inClass (top 21) 9)) (defBody (inClass (top 21) 9)) (defScope (inClass (top 21) 9)) .none kV_Town_text dc_Town_text pm_Town_text an_Town_text cd_Town_text ct_Town_text, f_law_bent := f_law_bent, d_law_bent := PySem.W.fnOf ("_law_bent" : Str) ("_law_bent" : Str) (defArgs (top 33)) (defBody (top 33)) (defScope (top 33)) .none kV_law_bent dc_law_bent pm_law_bent an_law_bent cd_law_bent ct_law_bent, f_law_numbers := f_law_numbers, d_law_numbers := PySem.W.fnOf ("_law_numbers" : Str) ("_law_numbers" : Str) (defArgs (top 31)) (defBody (top 31)) (defScope (top 31)) .none kV_law_numbers dc_law_numbers pm_law_numbers an_law_numbers cd_law_numbers ct_law_numbers, f_law_read := f_law_read, d_law_read := PySem.W.fnOf ("_law_read" : Str) ("_law_read" : Str) (defArgs (top 32)) (defBody (top 32)) (defScope (top 32)) .none kV_law_read dc_law_read pm_law_read an_law_read cd_law_read ct_law_read, f_law_error := f_law_error, d_law_error := PySem.W.fnOf ("_law_error" : Str) ("_law_error" : Str) (defArgs (top 26)) (defBody (top 26)) (defScope (top 26)) .none kV_law_error dc_law_error pm_law_error an_law_error cd_law_error ct_law_error, f_Town_place_count := f_Town_place_count, d_Town_place_count := PySem.W.fnOf ("place_count" : Str) ("Town.place_count" : Str) (defArgs (inClass (top 21) 6)) (defBody (inClass (top 21) 6)) (defScope (inClass (top 21) 6)) .none kV_Town_place_count dc_Town_place_count pm_Town_place_count an_Town_place_count cd_Town_place_count ct_Town_place_count, f_law := f_law, d_law := PySem.W.fnOf ("law" : Str) ("law" : Str) (defArgs (top 34)) (defBody (top 34)) (defScope (top 34)) .none kV_law dc_law pm_law an_law cd_law ct_law, C_Town := C_Town, C_InvalidTown := C_InvalidTown, C_InvalidText := C_InvalidText, C_InvalidTrips := C_InvalidTrips, C_InvalidLoad := C_InvalidLoad, C_InvalidLife := C_InvalidLife, C_InvalidCount := C_InvalidCount, C_UnknownKind := C_UnknownKind, C_UnknownBridge := C_UnknownBridge, C_UnknownPlace := C_UnknownPlace, C_Contradiction := C_Contradiction, C_DifferentTowns := C_DifferentTowns, C_TooManyBridges := C_TooManyBridges, C_BridgeError := C_BridgeError, i_InvalidTown := f_InvalidTown__init, j_InvalidTown := PySem.W.fnOf ("__init__" : Str) ("InvalidTown.__init__" : Str) (defArgs (inClass (top 3) 0)) (defBody (inClass (top 3) 0)) (defScope (inClass (top 3) 0)) .none kV_InvalidTown__init dc_InvalidTown__init pm_InvalidTown__init an_InvalidTown__init cd_InvalidTown__init ct_InvalidTown__init, i_InvalidText := f_InvalidText__init, j_InvalidText := PySem.W.fnOf ("__init__" : Str) ("InvalidText.__init__" : Str) (defArgs (inClass (top 4) 0)) (defBody (inClass (top 4) 0)) (defScope (inClass (top 4) 0)) .none kV_InvalidText__init dc_InvalidText__init pm_InvalidText__init an_InvalidText__init cd_InvalidText__init ct_InvalidText__init, mc := .type "type", lc := lc, lP := lP, t_Town_MAX_PLACES := (.int 12 w_Town_MAX_PLACES), t_Town_MAX_LIFE := (.int 1000000000000000000 w_Town_MAX_LIFE), t_Town_MAX_BRIDGES := (.int 24 w_Town_MAX_BRIDGES), p_Town_is_bridge := p_Town_is_bridge, p_Town_parse := p_Town_parse, a_Town_bridges := a_Town_bridges, a_Town_text := a_Town_text, a_Town_place_count := a_Town_place_count, t_MAX_LENGTH := t_MAX_LENGTH, t_DIGITS := t_DIGITS, t_PLACES := t_PLACES, t_BRIDGE := t_BRIDGE : Ad }) := {
    F_law_mix := fun_mk (st := top 23) l_law_mix c_law_mix k_law_mix,
    b_law_mix := (fun_mk (st := top 23) l_law_mix c_law_mix k_law_mix).binds fun _ _ _ _ _ _ us hl => match us, hl with | [_, _], _ => rfl,
    m_law_mix := PySem.W.mg_of KX G a_law_mix,
    F_law_next := fun_mk (st := top 24) l_law_next c_law_next k_law_next,
    b_law_next := (fun_mk (st := top 24) l_law_next c_law_next k_law_next).binds fun _ _ _ _ _ _ us hl => match us, hl with | [_, _], _ => rfl,
    m_law_next := PySem.W.mg_of KX G a_law_next,
    F_law_life := fun_mk (st := top 27) l_law_life c_law_life k_law_life,
    b_law_life := (fun_mk (st := top 27) l_law_life c_law_life k_law_life).binds fun _ _ _ _ _ _ us hl => match us, hl with | [_, _], _ => rfl,
    m_law_life := PySem.W.mg_of KX G a_law_life,
    F_law_links := fun_mk (st := top 28) l_law_links c_law_links k_law_links,
    b_law_links := (fun_mk (st := top 28) l_law_links c_law_links k_law_links).binds fun _ _ _ _ _ _ us hl => match us, hl with | [_, _, _, _], _ => rfl,
    m_law_links := PySem.W.mg_of KX G a_law_links,
    F_law_text := fun_mk (st := top 30) l_law_text c_law_text k_law_text,
    b_law_text := (fun_mk (st := top 30) l_law_text c_law_text k_law_text).binds fun _ _ _ _ _ _ us hl => match us, hl with | [_, _], _ => rfl,
    m_law_text := PySem.W.mg_of KX G a_law_text,
    F_Town_is_bridge := fun_mk (st := inClass (top 21) 4) l_Town_is_bridge c_Town_is_bridge k_Town_is_bridge,
    b_Town_is_bridge := (fun_mk (st := inClass (top 21) 4) l_Town_is_bridge c_Town_is_bridge k_Town_is_bridge).binds fun _ _ _ _ _ _ us hl => match us, hl with | [_, _], _ => rfl,
    F_Town__init := fun_mk (st := inClass (top 21) 3) l_Town__init c_Town__init k_Town__init,
    b_Town__init := (fun_mk (st := inClass (top 21) 3) l_Town__init c_Town__init k_Town__init).binds fun _ _ _ _ _ _ us hl => match us, hl with | [_, _, _], _ => rfl,
    F_parse_numbers := fun_mk (st := top 20) l_parse_numbers c_parse_numbers k_parse_numbers,
    b_parse_numbers := (fun_mk (st := top 20) l_parse_numbers c_parse_numbers k_parse_numbers).binds fun _ _ _ _ _ _ us hl => match us, hl with | [_], _ => rfl,
    m_parse_numbers := PySem.W.mg_of KX G a_parse_numbers,
    F_Town_parse := fun_mk (st := inClass (top 21) 5) l_Town_parse c_Town_parse k_Town_parse,
    b_Town_parse := (fun_mk (st := inClass (top 21) 5) l_Town_parse c_Town_parse k_Town_parse).binds fun _ _ _ _ _ _ us hl => match us, hl with | [_, _], _ => rfl,
    F_Town_bridges := fun_mk (st := inClass (top 21) 7) l_Town_bridges c_Town_bridges k_Town_bridges,
    b_Town_bridges := (fun_mk (st := inClass (top 21) 7) l_Town_bridges c_Town_bridges k_Town_bridges).binds fun _ _ _ _ _ _ us hl => match us, hl with | [_], _ => rfl,
    F_law_alike := fun_mk (st := top 25) l_law_alike c_law_alike k_law_alike,
    b_law_alike := (fun_mk (st := top 25) l_law_alike c_law_alike k_law_alike).binds fun _ _ _ _ _ _ us hl => match us, hl with | [_, _], _ => rfl,
    m_law_alike := PySem.W.mg_of KX G a_law_alike,
    F_Town_text := fun_mk (st := inClass (top 21) 9) l_Town_text c_Town_text k_Town_text,
    b_Town_text := (fun_mk (st := inClass (top 21) 9) l_Town_text c_Town_text k_Town_text).binds fun _ _ _ _ _ _ us hl => match us, hl with | [_], _ => rfl,
    F_law_bent := fun_mk (st := top 33) l_law_bent c_law_bent k_law_bent,
    b_law_bent := (fun_mk (st := top 33) l_law_bent c_law_bent k_law_bent).binds fun _ _ _ _ _ _ us hl => match us, hl with | [_, _], _ => rfl,
    m_law_bent := PySem.W.mg_of KX G a_law_bent,
    F_law_numbers := fun_mk (st := top 31) l_law_numbers c_law_numbers k_law_numbers,
    b_law_numbers := (fun_mk (st := top 31) l_law_numbers c_law_numbers k_law_numbers).binds fun _ _ _ _ _ _ us hl => match us, hl with | [_], _ => rfl,
    m_law_numbers := PySem.W.mg_of KX G a_law_numbers,
    F_law_read := fun_mk (st := top 32) l_law_read c_law_read k_law_read,
    b_law_read := (fun_mk (st := top 32) l_law_read c_law_read k_law_read).binds fun _ _ _ _ _ _ us hl => match us, hl with | [_], _ => rfl,
    m_law_read := PySem.W.mg_of KX G a_law_read,
    F_law_error := fun_mk (st := top 26) l_law_error c_law_error k_law_error,
    b_law_error := (fun_mk (st := top 26) l_law_error c_law_error k_law_error).binds fun _ _ _ _ _ _ us hl => match us, hl with | [_], _ => rfl,
    m_law_error := PySem.W.mg_of KX G a_law_error,
    F_Town_place_count := fun_mk (st := inClass (top 21) 6) l_Town_place_count c_Town_place_count k_Town_place_count,
    b_Town_place_count := (fun_mk (st := inClass (top 21) 6) l_Town_place_count c_Town_place_count k_Town_place_count).binds fun _ _ _ _ _ _ us hl => match us, hl with | [_], _ => rfl,
    F_law := fun_mk (st := top 34) l_law c_law k_law,
    b_law := (fun_mk (st := top 34) l_law c_law k_law).binds fun _ _ _ _ _ _ us hl => match us, hl with | [_], _ => rfl,
    m_law := PySem.W.mg_of KX G a_law,
    m_Town := PySem.W.mg_of KX G aC_Town,
    m_InvalidTown := PySem.W.mg_of KX G aC_InvalidTown,
    m_InvalidText := PySem.W.mg_of KX G aC_InvalidText,
    m_InvalidTrips := PySem.W.mg_of KX G aC_InvalidTrips,
    m_InvalidLoad := PySem.W.mg_of KX G aC_InvalidLoad,
    m_InvalidLife := PySem.W.mg_of KX G aC_InvalidLife,
    m_InvalidCount := PySem.W.mg_of KX G aC_InvalidCount,
    m_UnknownKind := PySem.W.mg_of KX G aC_UnknownKind,
    m_UnknownBridge := PySem.W.mg_of KX G aC_UnknownBridge,
    m_UnknownPlace := PySem.W.mg_of KX G aC_UnknownPlace,
    m_Contradiction := PySem.W.mg_of KX G aC_Contradiction,
    m_DifferentTowns := PySem.W.mg_of KX G aC_DifferentTowns,
    m_TooManyBridges := PySem.W.mg_of KX G aC_TooManyBridges,
    m_BridgeError := PySem.W.mg_of KX G aC_BridgeError,
    r_Town := ⟨rd_Town, ga_Town⟩,
    v_Town_MAX_PLACES := ⟨cv_Town_MAX_PLACES, _, rfl⟩,
    v_Town_MAX_LIFE := ⟨cv_Town_MAX_LIFE, _, rfl⟩,
    v_Town_MAX_BRIDGES := ⟨cv_Town_MAX_BRIDGES, _, rfl⟩,
    s_Town_is_bridge := ⟨sa_Town_is_bridge, ⟨_, sr_Town_is_bridge⟩, k_Town_is_bridge⟩,
    y_Town_parse := ⟨sa_Town_parse, ⟨_, sr_Town_parse⟩, sf_Town_parse⟩,
    c_Town := ⟨pg_Town, hd_Town, po_Town, st_Town⟩,
    k_Town := ⟨mk_Town, at_Town__init, fn_Town__init, kc_Town⟩,
    n_Town_size := na_Town_size,
    n_Town_links := na_Town_links,
    n_InvalidTown_index := na_InvalidTown_index,
    n_InvalidTown_part := na_InvalidTown_part,
    n_InvalidText_row := na_InvalidText_row,
    n_InvalidTrips_index := na_InvalidTrips_index,
    xf_InvalidTown := ⟨xg_InvalidTown, xh_InvalidTown, xb_InvalidTown, xd_InvalidTown⟩,
    xf_InvalidText := ⟨xg_InvalidText, xh_InvalidText, xb_InvalidText, xd_InvalidText⟩,
    xf_InvalidTrips := ⟨xg_InvalidTrips, xh_InvalidTrips, xb_InvalidTrips, xd_InvalidTrips⟩,
    p_Town_bridges := ⟨pa_Town_bridges, pb_Town_bridges, pc_Town_bridges, _, pd_Town_bridges⟩,
    p_Town_text := ⟨pa_Town_text, pb_Town_text, pc_Town_text, _, pd_Town_text⟩,
    p_Town_place_count := ⟨pa_Town_place_count, pb_Town_place_count, pc_Town_place_count, _, pd_Town_place_count⟩,
    m_MAX_LENGTH := PySem.W.mg_of KX G g_MAX_LENGTH,
    m_DIGITS := PySem.W.mg_of KX G g_DIGITS,
    m_PLACES := PySem.W.mg_of KX G g_PLACES,
    m_BRIDGE := PySem.W.mg_of KX G g_BRIDGE,
    z_list := PySem.W.mg_none_of KX G z_list,
    z_range := PySem.W.mg_none_of KX G z_range,
    z_int := PySem.W.mg_none_of KX G z_int,
    z_max := PySem.W.mg_none_of KX G z_max,
    z_len := PySem.W.mg_none_of KX G z_len,
    z_tuple := PySem.W.mg_none_of KX G z_tuple,
    z_str := PySem.W.mg_none_of KX G z_str,
    z_enumerate := PySem.W.mg_none_of KX G z_enumerate,
    z_isinstance := PySem.W.mg_none_of KX G z_isinstance,
    z_dict := PySem.W.mg_none_of KX G z_dict,
    z_bool := PySem.W.mg_none_of KX G z_bool,
    z_ValueError := PySem.W.mg_none_of KX G z_ValueError,
    x_InvalidTown := fun w base => xinit2 (fun_mk (st := inClass (top 3) 0) l_InvalidTown__init c_InvalidTown__init k_InvalidTown__init) ⟨rfl, rfl, rfl, by decide +kernel, rfl, by decide +kernel, by decide +kernel⟩ ⟨⟨_, _, _, _, _, _, _, _, _, _, _, _, _, _, _, ox_InvalidTown, bm_InvalidTown⟩, sa_InvalidTown, xb_InvalidTown, xt_InvalidTown, kc_InvalidTown⟩ at_InvalidTown__init ty_InvalidTown__init na_InvalidTown_part na_InvalidTown_index (fun s us ws _ l1 l2 => match us, l1, ws, l2 with | [_], _, [_, _], _ => .of_eq rfl) fun cdv A outer s H E => pss_cons (ps_expr (pe_oinit (pl := _) rfl (PySem.W.mg_of KX G aC_BridgeError) ⟨rd_BridgeError, ga_BridgeError⟩ bi_BridgeError (pa_cons (pv 0) (pa_cons pe_str pa_nil)))) (pss_cons (ps_ost (pv 0) (pv 1)) (pss_one (ps_ost (pv 0) (pv 2)))),
    x_InvalidText := fun w base => xinit1 (fun_mk (st := inClass (top 4) 0) l_InvalidText__init c_InvalidText__init k_InvalidText__init) ⟨rfl, rfl, rfl, by decide +kernel, rfl, by decide +kernel, by decide +kernel⟩ ⟨⟨_, _, _, _, _, _, _, _, _, _, _, _, _, _, _, ox_InvalidText, bm_InvalidText⟩, sa_InvalidText, xb_InvalidText, xt_InvalidText, kc_InvalidText⟩ at_InvalidText__init ty_InvalidText__init na_InvalidText_row (fun s us ws _ l1 l2 => match us, l1, ws, l2 with | [_], _, [_], _ => .of_eq rfl) fun cdv A outer s H E => pss_cons (ps_expr (pe_oinit (pl := _) rfl (PySem.W.mg_of KX G aC_BridgeError) ⟨rd_BridgeError, ga_BridgeError⟩ bi_BridgeError (pa_cons (pv 0) (pa_cons pe_str pa_nil)))) (pss_one (ps_ost (pv 0) (pv 1))),
    ec_InvalidTown := ⟨xg_InvalidTown, xh_InvalidTown, xb_InvalidTown, xd_InvalidTown, xa_InvalidTown, sp_get, sp_tak, xm_InvalidTown⟩,
    kt_InvalidTown_InvalidTown := kit_own xd_InvalidTown xt_InvalidTown ss_InvalidTown_InvalidTown ss_InvalidTown_InvalidTown,
    kt_InvalidTown_InvalidText := kit_own xd_InvalidText xt_InvalidText ss_InvalidTown_InvalidTown ss_InvalidTown_InvalidText,
    kt_InvalidTown_InvalidTrips := kit_own xd_InvalidTrips xt_InvalidTrips ss_InvalidTown_InvalidTown ss_InvalidTown_InvalidTrips,
    kt_InvalidTown_InvalidCount := kit_own xd_InvalidCount xt_InvalidCount ss_InvalidTown_InvalidTown ss_InvalidTown_InvalidCount,
    kt_InvalidTown_InvalidLife := kit_own xd_InvalidLife xt_InvalidLife ss_InvalidTown_InvalidTown ss_InvalidTown_InvalidLife,
    kt_InvalidTown_InvalidLoad := kit_own xd_InvalidLoad xt_InvalidLoad ss_InvalidTown_InvalidTown ss_InvalidTown_InvalidLoad,
    kt_InvalidTown_UnknownPlace := kit_own xd_UnknownPlace xt_UnknownPlace ss_InvalidTown_InvalidTown ss_InvalidTown_UnknownPlace,
    kt_InvalidTown_UnknownBridge := kit_own xd_UnknownBridge xt_UnknownBridge ss_InvalidTown_InvalidTown ss_InvalidTown_UnknownBridge,
    kt_InvalidTown_UnknownKind := kit_own xd_UnknownKind xt_UnknownKind ss_InvalidTown_InvalidTown ss_InvalidTown_UnknownKind,
    kt_InvalidTown_TooManyBridges := kit_own xd_TooManyBridges xt_TooManyBridges ss_InvalidTown_InvalidTown ss_InvalidTown_TooManyBridges,
    kt_InvalidTown_DifferentTowns := kit_own xd_DifferentTowns xt_DifferentTowns ss_InvalidTown_InvalidTown ss_InvalidTown_DifferentTowns,
    kt_InvalidTown_Contradiction := kit_own xd_Contradiction xt_Contradiction ss_InvalidTown_InvalidTown ss_InvalidTown_Contradiction,
    kt_InvalidTown_ValueError := kit_type (by decide +kernel) ss_InvalidTown_ValueError,
    xm_InvalidTown_BridgeError := exm_own xb_BridgeError xd_BridgeError xt_BridgeError ss_InvalidTown_BridgeError,
    ec_InvalidText := ⟨xg_InvalidText, xh_InvalidText, xb_InvalidText, xd_InvalidText, xa_InvalidText, sp_get, sp_tak, xm_InvalidText⟩,
    kt_InvalidText_InvalidTown := kit_own xd_InvalidTown xt_InvalidTown ss_InvalidText_InvalidText ss_InvalidText_InvalidTown,
    kt_InvalidText_InvalidText := kit_own xd_InvalidText xt_InvalidText ss_InvalidText_InvalidText ss_InvalidText_InvalidText,
    kt_InvalidText_InvalidTrips := kit_own xd_InvalidTrips xt_InvalidTrips ss_InvalidText_InvalidText ss_InvalidText_InvalidTrips,
    kt_InvalidText_InvalidCount := kit_own xd_InvalidCount xt_InvalidCount ss_InvalidText_InvalidText ss_InvalidText_InvalidCount,
    kt_InvalidText_InvalidLife := kit_own xd_InvalidLife xt_InvalidLife ss_InvalidText_InvalidText ss_InvalidText_InvalidLife,
    kt_InvalidText_InvalidLoad := kit_own xd_InvalidLoad xt_InvalidLoad ss_InvalidText_InvalidText ss_InvalidText_InvalidLoad,
    kt_InvalidText_UnknownPlace := kit_own xd_UnknownPlace xt_UnknownPlace ss_InvalidText_InvalidText ss_InvalidText_UnknownPlace,
    kt_InvalidText_UnknownBridge := kit_own xd_UnknownBridge xt_UnknownBridge ss_InvalidText_InvalidText ss_InvalidText_UnknownBridge,
    kt_InvalidText_UnknownKind := kit_own xd_UnknownKind xt_UnknownKind ss_InvalidText_InvalidText ss_InvalidText_UnknownKind,
    kt_InvalidText_TooManyBridges := kit_own xd_TooManyBridges xt_TooManyBridges ss_InvalidText_InvalidText ss_InvalidText_TooManyBridges,
    kt_InvalidText_DifferentTowns := kit_own xd_DifferentTowns xt_DifferentTowns ss_InvalidText_InvalidText ss_InvalidText_DifferentTowns,
    kt_InvalidText_Contradiction := kit_own xd_Contradiction xt_Contradiction ss_InvalidText_InvalidText ss_InvalidText_Contradiction,
    kt_InvalidText_ValueError := kit_type (by decide +kernel) ss_InvalidText_ValueError,
    xm_InvalidText_BridgeError := exm_own xb_BridgeError xd_BridgeError xt_BridgeError ss_InvalidText_BridgeError }
  have hne : lc ≠ lP := fun z => by rw [z, nP] at lk; cases lk
  have cod : PySem.W.CodeHd h lc lP := ⟨_, lvs, lfile, ltf, lfl, ltg, lin, ltx, ltt, KX _ _ lk, rfl, rfl, v11, w11, v18, v7, v9, v10, hne⟩
  exact law_at (own lc lP _ _ _ _ _ _ l_law rfl hcd lk v11) nP cod (fun s u => .of_eq rfl) (law_true _ (fun e => by have q : some true = some false := ss_InvalidTown_InvalidTown.symm.trans ((congrArg (fun x => PySem.W.subIn TheK.K (.ref x) (.ref C_InvalidTown)) (show C_InvalidText = C_InvalidTown from e)).symm.trans ss_InvalidText_InvalidTown); cases q)) fun base _ _ TB => ok_law (L := ([], [])) X TB hcd

end
end Law
namespace Law
open PySem PySem.Spec PyProof.Rows L2 CL
theorem all_mkK {K : PySem.W.Frag} {l : PySem.W.OpenLaw} {w : World} {mg : Str → Option Value} {fa : Addr} {h : Heap} (KX : K.In h) (G : h.Ns mainGlobals mg) (hfa : mg "law" = some (.ref fa)) (own : LamX.OwnTab K fa h)
    {C_Town : Addr}
    {C_InvalidTown : Addr}
    {C_InvalidText : Addr}
    {C_InvalidTrips : Addr}
    {C_InvalidLoad : Addr}
    {C_InvalidLife : Addr}
    {C_InvalidCount : Addr}
    {C_UnknownKind : Addr}
    {C_UnknownBridge : Addr}
    {C_UnknownPlace : Addr}
    {C_Contradiction : Addr}
    {C_DifferentTowns : Addr}
    {C_TooManyBridges : Addr}
    {C_BridgeError : Addr}
    {f_law_mix : Addr} {od_law_mix an_law_mix : Option Addr} {sl_law_mix : Array (Option Value)} {oc_law_mix kV_law_mix dc_law_mix pm_law_mix cd_law_mix ct_law_mix : Value}
    {f_law_next : Addr} {od_law_next an_law_next : Option Addr} {sl_law_next : Array (Option Value)} {oc_law_next kV_law_next dc_law_next pm_law_next cd_law_next ct_law_next : Value}
    {f_law_life : Addr} {od_law_life an_law_life : Option Addr} {sl_law_life : Array (Option Value)} {oc_law_life kV_law_life dc_law_life pm_law_life cd_law_life ct_law_life : Value}
    {f_law_links : Addr} {od_law_links an_law_links : Option Addr} {sl_law_links : Array (Option Value)} {oc_law_links kV_law_links dc_law_links pm_law_links cd_law_links ct_law_links : Value}
    {f_law_text : Addr} {od_law_text an_law_text : Option Addr} {sl_law_text : Array (Option Value)} {oc_law_text kV_law_text dc_law_text pm_law_text cd_law_text ct_law_text : Value}
    {f_Town_is_bridge : Addr} {od_Town_is_bridge an_Town_is_bridge : Option Addr} {sl_Town_is_bridge : Array (Option Value)} {oc_Town_is_bridge kV_Town_is_bridge dc_Town_is_bridge pm_Town_is_bridge cd_Town_is_bridge ct_Town_is_bridge : Value}
    {f_Town__init : Addr} {od_Town__init an_Town__init : Option Addr} {sl_Town__init : Array (Option Value)} {oc_Town__init kV_Town__init dc_Town__init pm_Town__init cd_Town__init ct_Town__init : Value}
    {f_parse_numbers : Addr} {od_parse_numbers an_parse_numbers : Option Addr} {sl_parse_numbers : Array (Option Value)} {oc_parse_numbers kV_parse_numbers dc_parse_numbers pm_parse_numbers cd_parse_numbers ct_parse_numbers : Value}
    {f_Town_parse : Addr} {od_Town_parse an_Town_parse : Option Addr} {sl_Town_parse : Array (Option Value)} {oc_Town_parse kV_Town_parse dc_Town_parse pm_Town_parse cd_Town_parse ct_Town_parse : Value}
    {f_Town_bridges : Addr} {od_Town_bridges an_Town_bridges : Option Addr} {sl_Town_bridges : Array (Option Value)} {oc_Town_bridges kV_Town_bridges dc_Town_bridges pm_Town_bridges cd_Town_bridges ct_Town_bridges : Value}
    {f_law_alike : Addr} {od_law_alike an_law_alike : Option Addr} {sl_law_alike : Array (Option Value)} {oc_law_alike kV_law_alike dc_law_alike pm_law_alike cd_law_alike ct_law_alike : Value}
    {f_Town_text : Addr} {od_Town_text an_Town_text : Option Addr} {sl_Town_text : Array (Option Value)} {oc_Town_text kV_Town_text dc_Town_text pm_Town_text cd_Town_text ct_Town_text : Value}
    {f_law_bent : Addr} {od_law_bent an_law_bent : Option Addr} {sl_law_bent : Array (Option Value)} {oc_law_bent kV_law_bent dc_law_bent pm_law_bent cd_law_bent ct_law_bent : Value}
    {f_law_numbers : Addr} {od_law_numbers an_law_numbers : Option Addr} {sl_law_numbers : Array (Option Value)} {oc_law_numbers kV_law_numbers dc_law_numbers pm_law_numbers cd_law_numbers ct_law_numbers : Value}
    {f_law_read : Addr} {od_law_read an_law_read : Option Addr} {sl_law_read : Array (Option Value)} {oc_law_read kV_law_read dc_law_read pm_law_read cd_law_read ct_law_read : Value}
    {f_law_error : Addr} {od_law_error an_law_error : Option Addr} {sl_law_error : Array (Option Value)} {oc_law_error kV_law_error dc_law_error pm_law_error cd_law_error ct_law_error : Value}
    {f_Town_place_count : Addr} {od_Town_place_count an_Town_place_count : Option Addr} {sl_Town_place_count : Array (Option Value)} {oc_Town_place_count kV_Town_place_count dc_Town_place_count pm_Town_place_count cd_Town_place_count ct_Town_place_count : Value}
    {f_law : Addr} {od_law an_law : Option Addr} {sl_law : Array (Option Value)} {oc_law kV_law dc_law pm_law cd_law ct_law : Value}
    {w_Town_MAX_PLACES : Tok}
    {w_Town_MAX_LIFE : Tok}
    {w_Town_MAX_BRIDGES : Tok}
    {p_Town_is_bridge : Addr} {rs_Town_is_bridge : List Value}
    {p_Town_parse : Addr} {rs_Town_parse : List Value}
    {a_Town_bridges : Addr} {rp_Town_bridges : List Value}
    {a_Town_text : Addr} {rp_Town_text : List Value}
    {a_Town_place_count : Addr} {rp_Town_place_count : List Value}
    {t_MAX_LENGTH : Tok}
    {t_DIGITS : Tok}
    {t_PLACES : Tok}
    {t_BRIDGE : Tok}
    {f_InvalidTown__init : Addr} {od_InvalidTown__init an_InvalidTown__init : Option Addr} {sl_InvalidTown__init : Array (Option Value)} {oc_InvalidTown__init kV_InvalidTown__init dc_InvalidTown__init pm_InvalidTown__init cd_InvalidTown__init ct_InvalidTown__init : Value}
    {nm_InvalidTown qn_InvalidTown : Str} {N_InvalidTown : Addr} {bs_InvalidTown bm_InvalidTown : List Value} {sn_InvalidTown : List Str} {su_InvalidTown : List Value} {ab_InvalidTown : Bool} {co_InvalidTown : Option Bool} {dd_InvalidTown : Option Addr} {ka_InvalidTown kb_InvalidTown ke_InvalidTown kf_InvalidTown kg_InvalidTown : Option Value}
    {f_InvalidText__init : Addr} {od_InvalidText__init an_InvalidText__init : Option Addr} {sl_InvalidText__init : Array (Option Value)} {oc_InvalidText__init kV_InvalidText__init dc_InvalidText__init pm_InvalidText__init cd_InvalidText__init ct_InvalidText__init : Value}
    {nm_InvalidText qn_InvalidText : Str} {N_InvalidText : Addr} {bs_InvalidText bm_InvalidText : List Value} {sn_InvalidText : List Str} {su_InvalidText : List Value} {ab_InvalidText : Bool} {co_InvalidText : Option Bool} {dd_InvalidText : Option Addr} {ka_InvalidText kb_InvalidText ke_InvalidText kf_InvalidText kg_InvalidText : Option Value}
    {lc lP : Addr} {lod : Option Addr} {lvs : Array Value} {lsl : Array (Option Value)} {lfile : Str} {lfl : Int} {lin : Bool} {ltx : Int} {ltf ltg ltt : Tok}
    (aC_Town : PySem.W.nsIn K mainGlobals ("Town" : Str) = some (some (.ref C_Town)))
    (aC_InvalidTown : PySem.W.nsIn K mainGlobals ("InvalidTown" : Str) = some (some (.ref C_InvalidTown)))
    (aC_InvalidText : PySem.W.nsIn K mainGlobals ("InvalidText" : Str) = some (some (.ref C_InvalidText)))
    (aC_InvalidTrips : PySem.W.nsIn K mainGlobals ("InvalidTrips" : Str) = some (some (.ref C_InvalidTrips)))
    (aC_InvalidLoad : PySem.W.nsIn K mainGlobals ("InvalidLoad" : Str) = some (some (.ref C_InvalidLoad)))
    (aC_InvalidLife : PySem.W.nsIn K mainGlobals ("InvalidLife" : Str) = some (some (.ref C_InvalidLife)))
    (aC_InvalidCount : PySem.W.nsIn K mainGlobals ("InvalidCount" : Str) = some (some (.ref C_InvalidCount)))
    (aC_UnknownKind : PySem.W.nsIn K mainGlobals ("UnknownKind" : Str) = some (some (.ref C_UnknownKind)))
    (aC_UnknownBridge : PySem.W.nsIn K mainGlobals ("UnknownBridge" : Str) = some (some (.ref C_UnknownBridge)))
    (aC_UnknownPlace : PySem.W.nsIn K mainGlobals ("UnknownPlace" : Str) = some (some (.ref C_UnknownPlace)))
    (aC_Contradiction : PySem.W.nsIn K mainGlobals ("Contradiction" : Str) = some (some (.ref C_Contradiction)))
    (aC_DifferentTowns : PySem.W.nsIn K mainGlobals ("DifferentTowns" : Str) = some (some (.ref C_DifferentTowns)))
    (aC_TooManyBridges : PySem.W.nsIn K mainGlobals ("TooManyBridges" : Str) = some (some (.ref C_TooManyBridges)))
    (aC_BridgeError : PySem.W.nsIn K mainGlobals ("BridgeError" : Str) = some (some (.ref C_BridgeError)))
    (a_law_mix : PySem.W.nsIn K mainGlobals ("_law_mix" : Str) = some (some (.ref f_law_mix)))
    (l_law_mix : K.lookup f_law_mix = some ⟨oc_law_mix, od_law_mix, .func (PySem.W.fnOf ("_law_mix" : Str) ("_law_mix" : Str) (defArgs (top 23)) (defBody (top 23)) (defScope (top 23)) .none kV_law_mix dc_law_mix pm_law_mix an_law_mix cd_law_mix ct_law_mix), sl_law_mix⟩)
    (c_law_mix : PySem.W.codeIn K cd_law_mix ("_law_mix" : Str) = true)
    (k_law_mix : PySem.W.keepIn K (.ref f_law_mix) = true)
    (a_law_next : PySem.W.nsIn K mainGlobals ("_law_next" : Str) = some (some (.ref f_law_next)))
    (l_law_next : K.lookup f_law_next = some ⟨oc_law_next, od_law_next, .func (PySem.W.fnOf ("_law_next" : Str) ("_law_next" : Str) (defArgs (top 24)) (defBody (top 24)) (defScope (top 24)) .none kV_law_next dc_law_next pm_law_next an_law_next cd_law_next ct_law_next), sl_law_next⟩)
    (c_law_next : PySem.W.codeIn K cd_law_next ("_law_next" : Str) = true)
    (k_law_next : PySem.W.keepIn K (.ref f_law_next) = true)
    (a_law_life : PySem.W.nsIn K mainGlobals ("_law_life" : Str) = some (some (.ref f_law_life)))
    (l_law_life : K.lookup f_law_life = some ⟨oc_law_life, od_law_life, .func (PySem.W.fnOf ("_law_life" : Str) ("_law_life" : Str) (defArgs (top 27)) (defBody (top 27)) (defScope (top 27)) .none kV_law_life dc_law_life pm_law_life an_law_life cd_law_life ct_law_life), sl_law_life⟩)
    (c_law_life : PySem.W.codeIn K cd_law_life ("_law_life" : Str) = true)
    (k_law_life : PySem.W.keepIn K (.ref f_law_life) = true)
    (a_law_links : PySem.W.nsIn K mainGlobals ("_law_links" : Str) = some (some (.ref f_law_links)))
    (l_law_links : K.lookup f_law_links = some ⟨oc_law_links, od_law_links, .func (PySem.W.fnOf ("_law_links" : Str) ("_law_links" : Str) (defArgs (top 28)) (defBody (top 28)) (defScope (top 28)) .none kV_law_links dc_law_links pm_law_links an_law_links cd_law_links ct_law_links), sl_law_links⟩)
    (c_law_links : PySem.W.codeIn K cd_law_links ("_law_links" : Str) = true)
    (k_law_links : PySem.W.keepIn K (.ref f_law_links) = true)
    (a_law_text : PySem.W.nsIn K mainGlobals ("_law_text" : Str) = some (some (.ref f_law_text)))
    (l_law_text : K.lookup f_law_text = some ⟨oc_law_text, od_law_text, .func (PySem.W.fnOf ("_law_text" : Str) ("_law_text" : Str) (defArgs (top 30)) (defBody (top 30)) (defScope (top 30)) .none kV_law_text dc_law_text pm_law_text an_law_text cd_law_text ct_law_text), sl_law_text⟩)
    (c_law_text : PySem.W.codeIn K cd_law_text ("_law_text" : Str) = true)
    (k_law_text : PySem.W.keepIn K (.ref f_law_text) = true)
    (l_Town_is_bridge : K.lookup f_Town_is_bridge = some ⟨oc_Town_is_bridge, od_Town_is_bridge, .func (PySem.W.fnOf ("is_bridge" : Str) ("Town.is_bridge" : Str) (defArgs (inClass (top 21) 4)) (defBody (inClass (top 21) 4)) (defScope (inClass (top 21) 4)) .none kV_Town_is_bridge dc_Town_is_bridge pm_Town_is_bridge an_Town_is_bridge cd_Town_is_bridge ct_Town_is_bridge), sl_Town_is_bridge⟩)
    (c_Town_is_bridge : PySem.W.codeIn K cd_Town_is_bridge ("Town.is_bridge" : Str) = true)
    (k_Town_is_bridge : PySem.W.keepIn K (.ref f_Town_is_bridge) = true)
    (l_Town__init : K.lookup f_Town__init = some ⟨oc_Town__init, od_Town__init, .func (PySem.W.fnOf ("__init__" : Str) ("Town.__init__" : Str) (defArgs (inClass (top 21) 3)) (defBody (inClass (top 21) 3)) (defScope (inClass (top 21) 3)) .none kV_Town__init dc_Town__init pm_Town__init an_Town__init cd_Town__init ct_Town__init), sl_Town__init⟩)
    (c_Town__init : PySem.W.codeIn K cd_Town__init ("Town.__init__" : Str) = true)
    (k_Town__init : PySem.W.keepIn K (.ref f_Town__init) = true)
    (at_Town__init : PySem.W.findIn K (.ref C_Town) "__init__" = some (some (.ref f_Town__init)))
    (fn_Town__init : PySem.W.isFn K (.ref f_Town__init) = true)
    (a_parse_numbers : PySem.W.nsIn K mainGlobals ("parse_numbers" : Str) = some (some (.ref f_parse_numbers)))
    (l_parse_numbers : K.lookup f_parse_numbers = some ⟨oc_parse_numbers, od_parse_numbers, .func (PySem.W.fnOf ("parse_numbers" : Str) ("parse_numbers" : Str) (defArgs (top 20)) (defBody (top 20)) (defScope (top 20)) .none kV_parse_numbers dc_parse_numbers pm_parse_numbers an_parse_numbers cd_parse_numbers ct_parse_numbers), sl_parse_numbers⟩)
    (c_parse_numbers : PySem.W.codeIn K cd_parse_numbers ("parse_numbers" : Str) = true)
    (k_parse_numbers : PySem.W.keepIn K (.ref f_parse_numbers) = true)
    (l_Town_parse : K.lookup f_Town_parse = some ⟨oc_Town_parse, od_Town_parse, .func (PySem.W.fnOf ("parse" : Str) ("Town.parse" : Str) (defArgs (inClass (top 21) 5)) (defBody (inClass (top 21) 5)) (defScope (inClass (top 21) 5)) .none kV_Town_parse dc_Town_parse pm_Town_parse an_Town_parse cd_Town_parse ct_Town_parse), sl_Town_parse⟩)
    (c_Town_parse : PySem.W.codeIn K cd_Town_parse ("Town.parse" : Str) = true)
    (k_Town_parse : PySem.W.keepIn K (.ref f_Town_parse) = true)
    (l_Town_bridges : K.lookup f_Town_bridges = some ⟨oc_Town_bridges, od_Town_bridges, .func (PySem.W.fnOf ("bridges" : Str) ("Town.bridges" : Str) (defArgs (inClass (top 21) 7)) (defBody (inClass (top 21) 7)) (defScope (inClass (top 21) 7)) .none kV_Town_bridges dc_Town_bridges pm_Town_bridges an_Town_bridges cd_Town_bridges ct_Town_bridges), sl_Town_bridges⟩)
    (c_Town_bridges : PySem.W.codeIn K cd_Town_bridges ("Town.bridges" : Str) = true)
    (k_Town_bridges : PySem.W.keepIn K (.ref f_Town_bridges) = true)
    (a_law_alike : PySem.W.nsIn K mainGlobals ("_law_alike" : Str) = some (some (.ref f_law_alike)))
    (l_law_alike : K.lookup f_law_alike = some ⟨oc_law_alike, od_law_alike, .func (PySem.W.fnOf ("_law_alike" : Str) ("_law_alike" : Str) (defArgs (top 25)) (defBody (top 25)) (defScope (top 25)) .none kV_law_alike dc_law_alike pm_law_alike an_law_alike cd_law_alike ct_law_alike), sl_law_alike⟩)
    (c_law_alike : PySem.W.codeIn K cd_law_alike ("_law_alike" : Str) = true)
    (k_law_alike : PySem.W.keepIn K (.ref f_law_alike) = true)
    (l_Town_text : K.lookup f_Town_text = some ⟨oc_Town_text, od_Town_text, .func (PySem.W.fnOf ("text" : Str) ("Town.text" : Str) (defArgs (inClass (top 21) 9)) (defBody (inClass (top 21) 9)) (defScope (inClass (top 21) 9)) .none kV_Town_text dc_Town_text pm_Town_text an_Town_text cd_Town_text ct_Town_text), sl_Town_text⟩)
    (c_Town_text : PySem.W.codeIn K cd_Town_text ("Town.text" : Str) = true)
    (k_Town_text : PySem.W.keepIn K (.ref f_Town_text) = true)
    (a_law_bent : PySem.W.nsIn K mainGlobals ("_law_bent" : Str) = some (some (.ref f_law_bent)))
    (l_law_bent : K.lookup f_law_bent = some ⟨oc_law_bent, od_law_bent, .func (PySem.W.fnOf ("_law_bent" : Str) ("_law_bent" : Str) (defArgs (top 33)) (defBody (top 33)) (defScope (top 33)) .none kV_law_bent dc_law_bent pm_law_bent an_law_bent cd_law_bent ct_law_bent), sl_law_bent⟩)
    (c_law_bent : PySem.W.codeIn K cd_law_bent ("_law_bent" : Str) = true)
    (k_law_bent : PySem.W.keepIn K (.ref f_law_bent) = true)
    (a_law_numbers : PySem.W.nsIn K mainGlobals ("_law_numbers" : Str) = some (some (.ref f_law_numbers)))
    (l_law_numbers : K.lookup f_law_numbers = some ⟨oc_law_numbers, od_law_numbers, .func (PySem.W.fnOf ("_law_numbers" : Str) ("_law_numbers" : Str) (defArgs (top 31)) (defBody (top 31)) (defScope (top 31)) .none kV_law_numbers dc_law_numbers pm_law_numbers an_law_numbers cd_law_numbers ct_law_numbers), sl_law_numbers⟩)
    (c_law_numbers : PySem.W.codeIn K cd_law_numbers ("_law_numbers" : Str) = true)
    (k_law_numbers : PySem.W.keepIn K (.ref f_law_numbers) = true)
    (a_law_read : PySem.W.nsIn K mainGlobals ("_law_read" : Str) = some (some (.ref f_law_read)))
    (l_law_read : K.lookup f_law_read = some ⟨oc_law_read, od_law_read, .func (PySem.W.fnOf ("_law_read" : Str) ("_law_read" : Str) (defArgs (top 32)) (defBody (top 32)) (defScope (top 32)) .none kV_law_read dc_law_read pm_law_read an_law_read cd_law_read ct_law_read), sl_law_read⟩)
    (c_law_read : PySem.W.codeIn K cd_law_read ("_law_read" : Str) = true)
    (k_law_read : PySem.W.keepIn K (.ref f_law_read) = true)
    (a_law_error : PySem.W.nsIn K mainGlobals ("_law_error" : Str) = some (some (.ref f_law_error)))
    (l_law_error : K.lookup f_law_error = some ⟨oc_law_error, od_law_error, .func (PySem.W.fnOf ("_law_error" : Str) ("_law_error" : Str) (defArgs (top 26)) (defBody (top 26)) (defScope (top 26)) .none kV_law_error dc_law_error pm_law_error an_law_error cd_law_error ct_law_error), sl_law_error⟩)
    (c_law_error : PySem.W.codeIn K cd_law_error ("_law_error" : Str) = true)
    (k_law_error : PySem.W.keepIn K (.ref f_law_error) = true)
    (l_Town_place_count : K.lookup f_Town_place_count = some ⟨oc_Town_place_count, od_Town_place_count, .func (PySem.W.fnOf ("place_count" : Str) ("Town.place_count" : Str) (defArgs (inClass (top 21) 6)) (defBody (inClass (top 21) 6)) (defScope (inClass (top 21) 6)) .none kV_Town_place_count dc_Town_place_count pm_Town_place_count an_Town_place_count cd_Town_place_count ct_Town_place_count), sl_Town_place_count⟩)
    (c_Town_place_count : PySem.W.codeIn K cd_Town_place_count ("Town.place_count" : Str) = true)
    (k_Town_place_count : PySem.W.keepIn K (.ref f_Town_place_count) = true)
    (a_law : PySem.W.nsIn K mainGlobals ("law" : Str) = some (some (.ref f_law)))
    (l_law : K.lookup f_law = some ⟨oc_law, od_law, .func (PySem.W.fnOf ("law" : Str) ("law" : Str) (defArgs (top 34)) (defBody (top 34)) (defScope (top 34)) .none kV_law dc_law pm_law an_law cd_law ct_law), sl_law⟩)
    (c_law : PySem.W.codeIn K cd_law ("law" : Str) = true)
    (k_law : PySem.W.keepIn K (.ref f_law) = true)
    (rd_Town : PySem.W.readsIn K C_Town (.type "type") = true)
    (ga_Town : PySem.W.specialIn K (.ref C_Town) "__getattribute__" = some (some (.builtin "type.__getattribute__")))
    (rd_BridgeError : PySem.W.readsIn K C_BridgeError (.type "type") = true)
    (ga_BridgeError : PySem.W.specialIn K (.ref C_BridgeError) "__getattribute__" = some (some (.builtin "type.__getattribute__")))
    (cv_Town_MAX_PLACES : PySem.W.findCls K (.ref C_Town) (.type "type") ("MAX_PLACES" : Str) = some (.val (.int 12 w_Town_MAX_PLACES)))
    (cv_Town_MAX_LIFE : PySem.W.findCls K (.ref C_Town) (.type "type") ("MAX_LIFE" : Str) = some (.val (.int 1000000000000000000 w_Town_MAX_LIFE)))
    (cv_Town_MAX_BRIDGES : PySem.W.findCls K (.ref C_Town) (.type "type") ("MAX_BRIDGES" : Str) = some (.val (.int 24 w_Town_MAX_BRIDGES)))
    (sa_Town_is_bridge : PySem.W.findCls K (.ref C_Town) (.type "type") ("is_bridge" : Str) = some (.get (.builtin "staticmethod.__get__") (.ref p_Town_is_bridge) .none (.ref C_Town)))
    (sr_Town_is_bridge : PySem.W.recIn K p_Town_is_bridge "staticmethod" = some (.ref f_Town_is_bridge :: rs_Town_is_bridge))
    (sa_Town_parse : PySem.W.findCls K (.ref C_Town) (.type "type") ("parse" : Str) = some (.get (.builtin "classmethod.__get__") (.ref p_Town_parse) .none (.ref C_Town)))
    (sr_Town_parse : PySem.W.recIn K p_Town_parse "classmethod" = some (.ref f_Town_parse :: rs_Town_parse))
    (sf_Town_parse : PySem.W.fnIn K f_Town_parse = true)
    (pg_Town : PySem.W.plainGet K C_Town Str.empty = true)
    (hd_Town : PySem.W.hasDictIn K C_Town = true)
    (po_Town : PySem.W.plainOver K C_Town = true)
    (st_Town : PySem.W.findIn K (.ref C_Town) "__setattr__" = some (some (.builtin "object.__setattr__")))
    (mk_Town : PySem.W.makesIn K C_Town = true)
    (kc_Town : PySem.W.keepIn K (.ref C_Town) = true)
    (na_Town_size : PySem.W.findIn K (.ref C_Town) ("size" : Str) = some none)
    (na_Town_links : PySem.W.findIn K (.ref C_Town) ("links" : Str) = some none)
    (na_InvalidTown_index : PySem.W.findIn K (.ref C_InvalidTown) ("index" : Str) = some none)
    (na_InvalidTown_part : PySem.W.findIn K (.ref C_InvalidTown) ("part" : Str) = some none)
    (na_InvalidText_row : PySem.W.findIn K (.ref C_InvalidText) ("row" : Str) = some none)
    (na_InvalidTrips_index : PySem.W.findIn K (.ref C_InvalidTrips) ("index" : Str) = some none)
    (xg_InvalidTown : PySem.W.findIn K (.ref C_InvalidTown) "__getattribute__" = some (some (.builtin "BaseException.__getattribute__")))
    (xh_InvalidTown : PySem.W.findIn K (.ref C_InvalidTown) "__getattr__" = some none)
    (xg_InvalidText : PySem.W.findIn K (.ref C_InvalidText) "__getattribute__" = some (some (.builtin "BaseException.__getattribute__")))
    (xh_InvalidText : PySem.W.findIn K (.ref C_InvalidText) "__getattr__" = some none)
    (xg_InvalidTrips : PySem.W.findIn K (.ref C_InvalidTrips) "__getattribute__" = some (some (.builtin "BaseException.__getattribute__")))
    (xh_InvalidTrips : PySem.W.findIn K (.ref C_InvalidTrips) "__getattr__" = some none)
    (xb_InvalidTown : PySem.W.subIn K (.ref C_InvalidTown) (.type "BaseException") = some true)
    (xd_InvalidTown : PySem.W.hasDictIn K C_InvalidTown = true)
    (xt_InvalidTown : PySem.W.typeIn K (.ref C_InvalidTown) = some (.type "type"))
    (xb_InvalidText : PySem.W.subIn K (.ref C_InvalidText) (.type "BaseException") = some true)
    (xd_InvalidText : PySem.W.hasDictIn K C_InvalidText = true)
    (xt_InvalidText : PySem.W.typeIn K (.ref C_InvalidText) = some (.type "type"))
    (xb_InvalidTrips : PySem.W.subIn K (.ref C_InvalidTrips) (.type "BaseException") = some true)
    (xd_InvalidTrips : PySem.W.hasDictIn K C_InvalidTrips = true)
    (xt_InvalidTrips : PySem.W.typeIn K (.ref C_InvalidTrips) = some (.type "type"))
    (xb_InvalidCount : PySem.W.subIn K (.ref C_InvalidCount) (.type "BaseException") = some true)
    (xd_InvalidCount : PySem.W.hasDictIn K C_InvalidCount = true)
    (xt_InvalidCount : PySem.W.typeIn K (.ref C_InvalidCount) = some (.type "type"))
    (xb_InvalidLife : PySem.W.subIn K (.ref C_InvalidLife) (.type "BaseException") = some true)
    (xd_InvalidLife : PySem.W.hasDictIn K C_InvalidLife = true)
    (xt_InvalidLife : PySem.W.typeIn K (.ref C_InvalidLife) = some (.type "type"))
    (xb_InvalidLoad : PySem.W.subIn K (.ref C_InvalidLoad) (.type "BaseException") = some true)
    (xd_InvalidLoad : PySem.W.hasDictIn K C_InvalidLoad = true)
    (xt_InvalidLoad : PySem.W.typeIn K (.ref C_InvalidLoad) = some (.type "type"))
    (xb_UnknownPlace : PySem.W.subIn K (.ref C_UnknownPlace) (.type "BaseException") = some true)
    (xd_UnknownPlace : PySem.W.hasDictIn K C_UnknownPlace = true)
    (xt_UnknownPlace : PySem.W.typeIn K (.ref C_UnknownPlace) = some (.type "type"))
    (xb_UnknownBridge : PySem.W.subIn K (.ref C_UnknownBridge) (.type "BaseException") = some true)
    (xd_UnknownBridge : PySem.W.hasDictIn K C_UnknownBridge = true)
    (xt_UnknownBridge : PySem.W.typeIn K (.ref C_UnknownBridge) = some (.type "type"))
    (xb_UnknownKind : PySem.W.subIn K (.ref C_UnknownKind) (.type "BaseException") = some true)
    (xd_UnknownKind : PySem.W.hasDictIn K C_UnknownKind = true)
    (xt_UnknownKind : PySem.W.typeIn K (.ref C_UnknownKind) = some (.type "type"))
    (xb_TooManyBridges : PySem.W.subIn K (.ref C_TooManyBridges) (.type "BaseException") = some true)
    (xd_TooManyBridges : PySem.W.hasDictIn K C_TooManyBridges = true)
    (xt_TooManyBridges : PySem.W.typeIn K (.ref C_TooManyBridges) = some (.type "type"))
    (xb_DifferentTowns : PySem.W.subIn K (.ref C_DifferentTowns) (.type "BaseException") = some true)
    (xd_DifferentTowns : PySem.W.hasDictIn K C_DifferentTowns = true)
    (xt_DifferentTowns : PySem.W.typeIn K (.ref C_DifferentTowns) = some (.type "type"))
    (xb_Contradiction : PySem.W.subIn K (.ref C_Contradiction) (.type "BaseException") = some true)
    (xd_Contradiction : PySem.W.hasDictIn K C_Contradiction = true)
    (xt_Contradiction : PySem.W.typeIn K (.ref C_Contradiction) = some (.type "type"))
    (xb_BridgeError : PySem.W.subIn K (.ref C_BridgeError) (.type "BaseException") = some true)
    (xd_BridgeError : PySem.W.hasDictIn K C_BridgeError = true)
    (xt_BridgeError : PySem.W.typeIn K (.ref C_BridgeError) = some (.type "type"))
    (pa_Town_bridges : PySem.W.findIn K (.ref C_Town) ("bridges" : Str) = some (some (.ref a_Town_bridges)))
    (pb_Town_bridges : PySem.W.specialIn K (.ref a_Town_bridges) "__get__" = some (some (.builtin "property.__get__")))
    (pc_Town_bridges : PySem.W.takesIn K (.ref a_Town_bridges) = some true)
    (pd_Town_bridges : PySem.W.recIn K a_Town_bridges "property" = some (.ref f_Town_bridges :: rp_Town_bridges))
    (pa_Town_text : PySem.W.findIn K (.ref C_Town) ("text" : Str) = some (some (.ref a_Town_text)))
    (pb_Town_text : PySem.W.specialIn K (.ref a_Town_text) "__get__" = some (some (.builtin "property.__get__")))
    (pc_Town_text : PySem.W.takesIn K (.ref a_Town_text) = some true)
    (pd_Town_text : PySem.W.recIn K a_Town_text "property" = some (.ref f_Town_text :: rp_Town_text))
    (pa_Town_place_count : PySem.W.findIn K (.ref C_Town) ("place_count" : Str) = some (some (.ref a_Town_place_count)))
    (pb_Town_place_count : PySem.W.specialIn K (.ref a_Town_place_count) "__get__" = some (some (.builtin "property.__get__")))
    (pc_Town_place_count : PySem.W.takesIn K (.ref a_Town_place_count) = some true)
    (pd_Town_place_count : PySem.W.recIn K a_Town_place_count "property" = some (.ref f_Town_place_count :: rp_Town_place_count))
    (g_MAX_LENGTH : PySem.W.nsIn K mainGlobals ("MAX_LENGTH" : Str) = some (some (.int 99 t_MAX_LENGTH)))
    (g_DIGITS : PySem.W.nsIn K mainGlobals ("DIGITS" : Str) = some (some (.str ("0123456789" : Str) t_DIGITS)))
    (g_PLACES : PySem.W.nsIn K mainGlobals ("PLACES" : Str) = some (some (.str ("places" : Str) t_PLACES)))
    (g_BRIDGE : PySem.W.nsIn K mainGlobals ("BRIDGE" : Str) = some (some (.str ("bridge" : Str) t_BRIDGE)))
    (z_list : PySem.W.nsIn K mainGlobals ("list" : Str) = some none)
    (z_range : PySem.W.nsIn K mainGlobals ("range" : Str) = some none)
    (z_int : PySem.W.nsIn K mainGlobals ("int" : Str) = some none)
    (z_max : PySem.W.nsIn K mainGlobals ("max" : Str) = some none)
    (z_len : PySem.W.nsIn K mainGlobals ("len" : Str) = some none)
    (z_tuple : PySem.W.nsIn K mainGlobals ("tuple" : Str) = some none)
    (z_str : PySem.W.nsIn K mainGlobals ("str" : Str) = some none)
    (z_enumerate : PySem.W.nsIn K mainGlobals ("enumerate" : Str) = some none)
    (z_isinstance : PySem.W.nsIn K mainGlobals ("isinstance" : Str) = some none)
    (z_dict : PySem.W.nsIn K mainGlobals ("dict" : Str) = some none)
    (z_bool : PySem.W.nsIn K mainGlobals ("bool" : Str) = some none)
    (z_ValueError : PySem.W.nsIn K mainGlobals ("ValueError" : Str) = some none)
    (bi_BridgeError : PySem.W.findCls K (.ref C_BridgeError) (.type "type") "__init__" = some (.val (.builtin "ValueError.__init__")))
    (kc_InvalidTown : PySem.W.keepIn K (.ref C_InvalidTown) = true)
    (l_InvalidTown__init : K.lookup f_InvalidTown__init = some ⟨oc_InvalidTown__init, od_InvalidTown__init, .func (PySem.W.fnOf ("__init__" : Str) ("InvalidTown.__init__" : Str) (defArgs (inClass (top 3) 0)) (defBody (inClass (top 3) 0)) (defScope (inClass (top 3) 0)) .none kV_InvalidTown__init dc_InvalidTown__init pm_InvalidTown__init an_InvalidTown__init cd_InvalidTown__init ct_InvalidTown__init), sl_InvalidTown__init⟩)
    (c_InvalidTown__init : PySem.W.codeIn K cd_InvalidTown__init ("InvalidTown.__init__" : Str) = true)
    (k_InvalidTown__init : PySem.W.keepIn K (.ref f_InvalidTown__init) = true)
    (at_InvalidTown__init : PySem.W.findIn K (.ref C_InvalidTown) "__init__" = some (some (.ref f_InvalidTown__init)))
    (ty_InvalidTown__init : PySem.W.typeIn K (.ref f_InvalidTown__init) = some (.type "function"))
    (sa_InvalidTown : PySem.W.findIn K (.ref C_InvalidTown) "__setattr__" = some (some (.builtin "object.__setattr__")))
    (ox_InvalidTown : K.lookup C_InvalidTown = some (excClassObj nm_InvalidTown qn_InvalidTown C_InvalidTown N_InvalidTown bs_InvalidTown bm_InvalidTown true sn_InvalidTown su_InvalidTown ab_InvalidTown co_InvalidTown dd_InvalidTown ka_InvalidTown kb_InvalidTown ke_InvalidTown kf_InvalidTown kg_InvalidTown "ValueError.__new__"))
    (bm_InvalidTown : PySem.HandSPX.refsVE bm_InvalidTown = true)
    (kc_InvalidText : PySem.W.keepIn K (.ref C_InvalidText) = true)
    (l_InvalidText__init : K.lookup f_InvalidText__init = some ⟨oc_InvalidText__init, od_InvalidText__init, .func (PySem.W.fnOf ("__init__" : Str) ("InvalidText.__init__" : Str) (defArgs (inClass (top 4) 0)) (defBody (inClass (top 4) 0)) (defScope (inClass (top 4) 0)) .none kV_InvalidText__init dc_InvalidText__init pm_InvalidText__init an_InvalidText__init cd_InvalidText__init ct_InvalidText__init), sl_InvalidText__init⟩)
    (c_InvalidText__init : PySem.W.codeIn K cd_InvalidText__init ("InvalidText.__init__" : Str) = true)
    (k_InvalidText__init : PySem.W.keepIn K (.ref f_InvalidText__init) = true)
    (at_InvalidText__init : PySem.W.findIn K (.ref C_InvalidText) "__init__" = some (some (.ref f_InvalidText__init)))
    (ty_InvalidText__init : PySem.W.typeIn K (.ref f_InvalidText__init) = some (.type "function"))
    (sa_InvalidText : PySem.W.findIn K (.ref C_InvalidText) "__setattr__" = some (some (.builtin "object.__setattr__")))
    (ox_InvalidText : K.lookup C_InvalidText = some (excClassObj nm_InvalidText qn_InvalidText C_InvalidText N_InvalidText bs_InvalidText bm_InvalidText true sn_InvalidText su_InvalidText ab_InvalidText co_InvalidText dd_InvalidText ka_InvalidText kb_InvalidText ke_InvalidText kf_InvalidText kg_InvalidText "ValueError.__new__"))
    (bm_InvalidText : PySem.HandSPX.refsVE bm_InvalidText = true)
    (xa_InvalidTown : PySem.W.findIn K (.ref C_InvalidTown) "__class__" = some (some (.builtin "object.__class__")))
    (xm_InvalidTown : PySem.W.mroIn K C_InvalidTown (.type "object") = some true)
    (ss_InvalidTown_InvalidTown : PySem.W.subIn K (.ref C_InvalidTown) (.ref C_InvalidTown) = some true)
    (ss_InvalidTown_InvalidText : PySem.W.subIn K (.ref C_InvalidTown) (.ref C_InvalidText) = some false)
    (ss_InvalidTown_InvalidTrips : PySem.W.subIn K (.ref C_InvalidTown) (.ref C_InvalidTrips) = some false)
    (ss_InvalidTown_InvalidCount : PySem.W.subIn K (.ref C_InvalidTown) (.ref C_InvalidCount) = some false)
    (ss_InvalidTown_InvalidLife : PySem.W.subIn K (.ref C_InvalidTown) (.ref C_InvalidLife) = some false)
    (ss_InvalidTown_InvalidLoad : PySem.W.subIn K (.ref C_InvalidTown) (.ref C_InvalidLoad) = some false)
    (ss_InvalidTown_UnknownPlace : PySem.W.subIn K (.ref C_InvalidTown) (.ref C_UnknownPlace) = some false)
    (ss_InvalidTown_UnknownBridge : PySem.W.subIn K (.ref C_InvalidTown) (.ref C_UnknownBridge) = some false)
    (ss_InvalidTown_UnknownKind : PySem.W.subIn K (.ref C_InvalidTown) (.ref C_UnknownKind) = some false)
    (ss_InvalidTown_TooManyBridges : PySem.W.subIn K (.ref C_InvalidTown) (.ref C_TooManyBridges) = some false)
    (ss_InvalidTown_DifferentTowns : PySem.W.subIn K (.ref C_InvalidTown) (.ref C_DifferentTowns) = some false)
    (ss_InvalidTown_Contradiction : PySem.W.subIn K (.ref C_InvalidTown) (.ref C_Contradiction) = some false)
    (ss_InvalidTown_ValueError : PySem.W.subIn K (.ref C_InvalidTown) (.type "ValueError") = some true)
    (ss_InvalidTown_BridgeError : PySem.W.subIn K (.ref C_InvalidTown) (.ref C_BridgeError) = some true)
    (xa_InvalidText : PySem.W.findIn K (.ref C_InvalidText) "__class__" = some (some (.builtin "object.__class__")))
    (xm_InvalidText : PySem.W.mroIn K C_InvalidText (.type "object") = some true)
    (ss_InvalidText_InvalidText : PySem.W.subIn K (.ref C_InvalidText) (.ref C_InvalidText) = some true)
    (ss_InvalidText_InvalidTown : PySem.W.subIn K (.ref C_InvalidText) (.ref C_InvalidTown) = some false)
    (ss_InvalidText_InvalidTrips : PySem.W.subIn K (.ref C_InvalidText) (.ref C_InvalidTrips) = some false)
    (ss_InvalidText_InvalidCount : PySem.W.subIn K (.ref C_InvalidText) (.ref C_InvalidCount) = some false)
    (ss_InvalidText_InvalidLife : PySem.W.subIn K (.ref C_InvalidText) (.ref C_InvalidLife) = some false)
    (ss_InvalidText_InvalidLoad : PySem.W.subIn K (.ref C_InvalidText) (.ref C_InvalidLoad) = some false)
    (ss_InvalidText_UnknownPlace : PySem.W.subIn K (.ref C_InvalidText) (.ref C_UnknownPlace) = some false)
    (ss_InvalidText_UnknownBridge : PySem.W.subIn K (.ref C_InvalidText) (.ref C_UnknownBridge) = some false)
    (ss_InvalidText_UnknownKind : PySem.W.subIn K (.ref C_InvalidText) (.ref C_UnknownKind) = some false)
    (ss_InvalidText_TooManyBridges : PySem.W.subIn K (.ref C_InvalidText) (.ref C_TooManyBridges) = some false)
    (ss_InvalidText_DifferentTowns : PySem.W.subIn K (.ref C_InvalidText) (.ref C_DifferentTowns) = some false)
    (ss_InvalidText_Contradiction : PySem.W.subIn K (.ref C_InvalidText) (.ref C_Contradiction) = some false)
    (ss_InvalidText_ValueError : PySem.W.subIn K (.ref C_InvalidText) (.type "ValueError") = some true)
    (ss_InvalidText_BridgeError : PySem.W.subIn K (.ref C_InvalidText) (.ref C_BridgeError) = some true)
    (sp_get : PySem.W.specialIn K (.builtin "object.__class__") "__get__" = some (some (.builtin "getset_descriptor.__get__")))
    (sp_tak : PySem.W.takesIn K (.builtin "object.__class__") = some true)
    (hcd : cd_law = .ref lc)
    (lk : K.lookup lc = some ⟨.type "code", lod, .fields lvs, lsl⟩)
    (v11 : lvs[11]? = some (.ref lP))
    (w11 : lvs.getD 11 .none = .ref lP)
    (v18 : lvs.getD 18 .none = .str lfile ltf)
    (v7 : lvs.getD 7 .none = .int lfl ltg)
    (v9 : lvs.getD 9 .none = .bool lin)
    (v10 : lvs.getD 10 .none = .int ltx ltt)
    (nP : K.lookup lP = none) :
    LamX.LawAtS l w K (L2.CX l.prog w) 14 63 "_law_script" mg fa h := by
  letI : TheK := ⟨K⟩
  exact all_mk KX G hfa own aC_Town aC_InvalidTown aC_InvalidText aC_InvalidTrips aC_InvalidLoad aC_InvalidLife aC_InvalidCount aC_UnknownKind aC_UnknownBridge aC_UnknownPlace aC_Contradiction aC_DifferentTowns aC_TooManyBridges aC_BridgeError a_law_mix l_law_mix c_law_mix k_law_mix a_law_next l_law_next c_law_next k_law_next a_law_life l_law_life c_law_life k_law_life a_law_links l_law_links c_law_links k_law_links a_law_text l_law_text c_law_text k_law_text l_Town_is_bridge c_Town_is_bridge k_Town_is_bridge l_Town__init c_Town__init k_Town__init at_Town__init fn_Town__init a_parse_numbers l_parse_numbers c_parse_numbers k_parse_numbers l_Town_parse c_Town_parse k_Town_parse l_Town_bridges c_Town_bridges k_Town_bridges a_law_alike l_law_alike c_law_alike k_law_alike l_Town_text c_Town_text k_Town_text a_law_bent l_law_bent c_law_bent k_law_bent a_law_numbers l_law_numbers c_law_numbers k_law_numbers a_law_read l_law_read c_law_read k_law_read a_law_error l_law_error c_law_error k_law_error l_Town_place_count c_Town_place_count k_Town_place_count a_law l_law c_law k_law rd_Town ga_Town rd_BridgeError ga_BridgeError cv_Town_MAX_PLACES cv_Town_MAX_LIFE cv_Town_MAX_BRIDGES sa_Town_is_bridge sr_Town_is_bridge sa_Town_parse sr_Town_parse sf_Town_parse pg_Town hd_Town po_Town st_Town mk_Town kc_Town na_Town_size na_Town_links na_InvalidTown_index na_InvalidTown_part na_InvalidText_row na_InvalidTrips_index xg_InvalidTown xh_InvalidTown xg_InvalidText xh_InvalidText xg_InvalidTrips xh_InvalidTrips xb_InvalidTown xd_InvalidTown xt_InvalidTown xb_InvalidText xd_InvalidText xt_InvalidText xb_InvalidTrips xd_InvalidTrips xt_InvalidTrips xb_InvalidCount xd_InvalidCount xt_InvalidCount xb_InvalidLife xd_InvalidLife xt_InvalidLife xb_InvalidLoad xd_InvalidLoad xt_InvalidLoad xb_UnknownPlace xd_UnknownPlace xt_UnknownPlace xb_UnknownBridge xd_UnknownBridge xt_UnknownBridge xb_UnknownKind xd_UnknownKind xt_UnknownKind xb_TooManyBridges xd_TooManyBridges xt_TooManyBridges xb_DifferentTowns xd_DifferentTowns xt_DifferentTowns xb_Contradiction xd_Contradiction xt_Contradiction xb_BridgeError xd_BridgeError xt_BridgeError pa_Town_bridges pb_Town_bridges pc_Town_bridges pd_Town_bridges pa_Town_text pb_Town_text pc_Town_text pd_Town_text pa_Town_place_count pb_Town_place_count pc_Town_place_count pd_Town_place_count g_MAX_LENGTH g_DIGITS g_PLACES g_BRIDGE z_list z_range z_int z_max z_len z_tuple z_str z_enumerate z_isinstance z_dict z_bool z_ValueError bi_BridgeError kc_InvalidTown l_InvalidTown__init c_InvalidTown__init k_InvalidTown__init at_InvalidTown__init ty_InvalidTown__init sa_InvalidTown ox_InvalidTown bm_InvalidTown kc_InvalidText l_InvalidText__init c_InvalidText__init k_InvalidText__init at_InvalidText__init ty_InvalidText__init sa_InvalidText ox_InvalidText bm_InvalidText xa_InvalidTown xm_InvalidTown ss_InvalidTown_InvalidTown ss_InvalidTown_InvalidText ss_InvalidTown_InvalidTrips ss_InvalidTown_InvalidCount ss_InvalidTown_InvalidLife ss_InvalidTown_InvalidLoad ss_InvalidTown_UnknownPlace ss_InvalidTown_UnknownBridge ss_InvalidTown_UnknownKind ss_InvalidTown_TooManyBridges ss_InvalidTown_DifferentTowns ss_InvalidTown_Contradiction ss_InvalidTown_ValueError ss_InvalidTown_BridgeError xa_InvalidText xm_InvalidText ss_InvalidText_InvalidText ss_InvalidText_InvalidTown ss_InvalidText_InvalidTrips ss_InvalidText_InvalidCount ss_InvalidText_InvalidLife ss_InvalidText_InvalidLoad ss_InvalidText_UnknownPlace ss_InvalidText_UnknownBridge ss_InvalidText_UnknownKind ss_InvalidText_TooManyBridges ss_InvalidText_DifferentTowns ss_InvalidText_Contradiction ss_InvalidText_ValueError ss_InvalidText_BridgeError sp_get sp_tak hcd lk v11 w11 v18 v7 v9 v10 nP
end Law
open PySem PySem.W PyProof.Rows
set_option maxRecDepth 100000 in
set_option maxHeartbeats 0 in
theorem PySem.Challenge.cw_wornbridges_k02_whole_texts_of_towns_holds : PySem.Challenge.rw_wornbridges_k02_whole_texts_of_towns.Holds := by
  w_on; o_law; k_head; (case hw => w_witness2)
  k_fill
  refine LamX.walk_ofOwn (l := PySem.Challenge.rw_wornbridges_k02_whole_texts_of_towns) (n := 63) (k := 14) (x := "_law_script") (CX := fun w => L2.CX PySem.Challenge.pw_wornbridges_k02_whole_texts_of_towns w) rfl (by decide) rfl ⟨rfl, by decide, by decide⟩ (by first | rfl | decide +kernel) (fun w h Y => by first | exact PySem.W.km_in_of Y | exact PySem.W.kIn_of Y) ?F (fun _ _ _ _ _ z => by obtain ⟨_, _, _, _, _, _, _, _, _, _, _, _, q⟩ := z; exact q)
  case F =>
    intro w mg fa h Y KX G hmg own
    refine' Law.all_mkK (l := PySem.Challenge.rw_wornbridges_k02_whole_texts_of_towns) KX G hmg own ?aC_Town ?aC_InvalidTown ?aC_InvalidText ?aC_InvalidTrips ?aC_InvalidLoad ?aC_InvalidLife ?aC_InvalidCount ?aC_UnknownKind ?aC_UnknownBridge ?aC_UnknownPlace ?aC_Contradiction ?aC_DifferentTowns ?aC_TooManyBridges ?aC_BridgeError ?a_law_mix ?l_law_mix ?c_law_mix ?k_law_mix ?a_law_next ?l_law_next ?c_law_next ?k_law_next ?a_law_life ?l_law_life ?c_law_life ?k_law_life ?a_law_links ?l_law_links ?c_law_links ?k_law_links ?a_law_text ?l_law_text ?c_law_text ?k_law_text ?l_Town_is_bridge ?c_Town_is_bridge ?k_Town_is_bridge ?l_Town__init ?c_Town__init ?k_Town__init ?at_Town__init ?fn_Town__init ?a_parse_numbers ?l_parse_numbers ?c_parse_numbers ?k_parse_numbers ?l_Town_parse ?c_Town_parse ?k_Town_parse ?l_Town_bridges ?c_Town_bridges ?k_Town_bridges ?a_law_alike ?l_law_alike ?c_law_alike ?k_law_alike ?l_Town_text ?c_Town_text ?k_Town_text ?a_law_bent ?l_law_bent ?c_law_bent ?k_law_bent ?a_law_numbers ?l_law_numbers ?c_law_numbers ?k_law_numbers ?a_law_read ?l_law_read ?c_law_read ?k_law_read ?a_law_error ?l_law_error ?c_law_error ?k_law_error ?l_Town_place_count ?c_Town_place_count ?k_Town_place_count ?a_law ?l_law ?c_law ?k_law ?rd_Town ?ga_Town ?rd_BridgeError ?ga_BridgeError ?cv_Town_MAX_PLACES ?cv_Town_MAX_LIFE ?cv_Town_MAX_BRIDGES ?sa_Town_is_bridge ?sr_Town_is_bridge ?sa_Town_parse ?sr_Town_parse ?sf_Town_parse ?pg_Town ?hd_Town ?po_Town ?st_Town ?mk_Town ?kc_Town ?na_Town_size ?na_Town_links ?na_InvalidTown_index ?na_InvalidTown_part ?na_InvalidText_row ?na_InvalidTrips_index ?xg_InvalidTown ?xh_InvalidTown ?xg_InvalidText ?xh_InvalidText ?xg_InvalidTrips ?xh_InvalidTrips ?xb_InvalidTown ?xd_InvalidTown ?xt_InvalidTown ?xb_InvalidText ?xd_InvalidText ?xt_InvalidText ?xb_InvalidTrips ?xd_InvalidTrips ?xt_InvalidTrips ?xb_InvalidCount ?xd_InvalidCount ?xt_InvalidCount ?xb_InvalidLife ?xd_InvalidLife ?xt_InvalidLife ?xb_InvalidLoad ?xd_InvalidLoad ?xt_InvalidLoad ?xb_UnknownPlace ?xd_UnknownPlace ?xt_UnknownPlace ?xb_UnknownBridge ?xd_UnknownBridge ?xt_UnknownBridge ?xb_UnknownKind ?xd_UnknownKind ?xt_UnknownKind ?xb_TooManyBridges ?xd_TooManyBridges ?xt_TooManyBridges ?xb_DifferentTowns ?xd_DifferentTowns ?xt_DifferentTowns ?xb_Contradiction ?xd_Contradiction ?xt_Contradiction ?xb_BridgeError ?xd_BridgeError ?xt_BridgeError ?pa_Town_bridges ?pb_Town_bridges ?pc_Town_bridges ?pd_Town_bridges ?pa_Town_text ?pb_Town_text ?pc_Town_text ?pd_Town_text ?pa_Town_place_count ?pb_Town_place_count ?pc_Town_place_count ?pd_Town_place_count ?g_MAX_LENGTH ?g_DIGITS ?g_PLACES ?g_BRIDGE ?z_list ?z_range ?z_int ?z_max ?z_len ?z_tuple ?z_str ?z_enumerate ?z_isinstance ?z_dict ?z_bool ?z_ValueError ?bi_BridgeError ?kc_InvalidTown ?l_InvalidTown__init ?c_InvalidTown__init ?k_InvalidTown__init ?at_InvalidTown__init ?ty_InvalidTown__init ?sa_InvalidTown ?ox_InvalidTown ?bm_InvalidTown ?kc_InvalidText ?l_InvalidText__init ?c_InvalidText__init ?k_InvalidText__init ?at_InvalidText__init ?ty_InvalidText__init ?sa_InvalidText ?ox_InvalidText ?bm_InvalidText ?xa_InvalidTown ?xm_InvalidTown ?ss_InvalidTown_InvalidTown ?ss_InvalidTown_InvalidText ?ss_InvalidTown_InvalidTrips ?ss_InvalidTown_InvalidCount ?ss_InvalidTown_InvalidLife ?ss_InvalidTown_InvalidLoad ?ss_InvalidTown_UnknownPlace ?ss_InvalidTown_UnknownBridge ?ss_InvalidTown_UnknownKind ?ss_InvalidTown_TooManyBridges ?ss_InvalidTown_DifferentTowns ?ss_InvalidTown_Contradiction ?ss_InvalidTown_ValueError ?ss_InvalidTown_BridgeError ?xa_InvalidText ?xm_InvalidText ?ss_InvalidText_InvalidText ?ss_InvalidText_InvalidTown ?ss_InvalidText_InvalidTrips ?ss_InvalidText_InvalidCount ?ss_InvalidText_InvalidLife ?ss_InvalidText_InvalidLoad ?ss_InvalidText_UnknownPlace ?ss_InvalidText_UnknownBridge ?ss_InvalidText_UnknownKind ?ss_InvalidText_TooManyBridges ?ss_InvalidText_DifferentTowns ?ss_InvalidText_Contradiction ?ss_InvalidText_ValueError ?ss_InvalidText_BridgeError ?sp_get ?sp_tak ?hcd ?lk ?v11 ?w11 ?v18 ?v7 ?v9 ?v10 ?nP
    (case aC_Town => k_is)
    (case aC_InvalidTown => k_is)
    (case aC_InvalidText => k_is)
    (case aC_InvalidTrips => k_is)
    (case aC_InvalidLoad => k_is)
    (case aC_InvalidLife => k_is)
    (case aC_InvalidCount => k_is)
    (case aC_UnknownKind => k_is)
    (case aC_UnknownBridge => k_is)
    (case aC_UnknownPlace => k_is)
    (case aC_Contradiction => k_is)
    (case aC_DifferentTowns => k_is)
    (case aC_TooManyBridges => k_is)
    (case aC_BridgeError => k_is)
    (case a_law_mix => k_is)
    (case a_law_next => k_is)
    (case a_law_life => k_is)
    (case a_law_links => k_is)
    (case a_law_text => k_is)
    (case a_parse_numbers => k_is)
    (case a_law_alike => k_is)
    (case a_law_bent => k_is)
    (case a_law_numbers => k_is)
    (case a_law_read => k_is)
    (case a_law_error => k_is)
    (case a_law => k_is)
    (case at_Town__init => k_is)
    (case at_InvalidTown__init => k_is)
    (case at_InvalidText__init => k_is)
    (case sa_Town_is_bridge => k_is)
    (case sa_Town_parse => k_is)
    (case sa_InvalidTown => k_is)
    (case sa_InvalidText => k_is)
    (case sr_Town_is_bridge => k_is)
    (case sr_Town_parse => k_is)
    (case pa_Town_bridges => k_is)
    (case pa_Town_text => k_is)
    (case pa_Town_place_count => k_is)
    (case pd_Town_bridges => k_is)
    (case pd_Town_text => k_is)
    (case pd_Town_place_count => k_is)
    (case l_law_mix => k_is)
    (case c_law_mix => k_is)
    (case k_law_mix => k_is)
    (case l_law_next => k_is)
    (case c_law_next => k_is)
    (case k_law_next => k_is)
    (case l_law_life => k_is)
    (case c_law_life => k_is)
    (case k_law_life => k_is)
    (case l_law_links => k_is)
    (case c_law_links => k_is)
    (case k_law_links => k_is)
    (case l_law_text => k_is)
    (case c_law_text => k_is)
    (case k_law_text => k_is)
    (case l_Town_is_bridge => k_is)
    (case c_Town_is_bridge => k_is)
    (case k_Town_is_bridge => k_is)
    (case l_Town__init => k_is)
    (case c_Town__init => k_is)
    (case k_Town__init => k_is)
    (case fn_Town__init => k_is)
    (case l_parse_numbers => k_is)
    (case c_parse_numbers => k_is)
    (case k_parse_numbers => k_is)
    (case l_Town_parse => k_is)
    (case c_Town_parse => k_is)
    (case k_Town_parse => k_is)
    (case l_Town_bridges => k_is)
    (case c_Town_bridges => k_is)
    (case k_Town_bridges => k_is)
    (case l_law_alike => k_is)
    (case c_law_alike => k_is)
    (case k_law_alike => k_is)
    (case l_Town_text => k_is)
    (case c_Town_text => k_is)
    (case k_Town_text => k_is)
    (case l_law_bent => k_is)
    (case c_law_bent => k_is)
    (case k_law_bent => k_is)
    (case l_law_numbers => k_is)
    (case c_law_numbers => k_is)
    (case k_law_numbers => k_is)
    (case l_law_read => k_is)
    (case c_law_read => k_is)
    (case k_law_read => k_is)
    (case l_law_error => k_is)
    (case c_law_error => k_is)
    (case k_law_error => k_is)
    (case l_Town_place_count => k_is)
    (case c_Town_place_count => k_is)
    (case k_Town_place_count => k_is)
    (case l_law => k_is)
    (case c_law => k_is)
    (case k_law => k_is)
    (case rd_Town => k_is)
    (case ga_Town => k_is)
    (case rd_BridgeError => k_is)
    (case ga_BridgeError => k_is)
    (case cv_Town_MAX_PLACES => k_is)
    (case cv_Town_MAX_LIFE => k_is)
    (case cv_Town_MAX_BRIDGES => k_is)
    (case sf_Town_parse => k_is)
    (case pg_Town => k_is)
    (case hd_Town => k_is)
    (case po_Town => k_is)
    (case st_Town => k_is)
    (case mk_Town => k_is)
    (case kc_Town => k_is)
    (case na_Town_size => k_is)
    (case na_Town_links => k_is)
    (case na_InvalidTown_index => k_is)
    (case na_InvalidTown_part => k_is)
    (case na_InvalidText_row => k_is)
    (case na_InvalidTrips_index => k_is)
    (case xg_InvalidTown => k_is)
    (case xh_InvalidTown => k_is)
    (case xg_InvalidText => k_is)
    (case xh_InvalidText => k_is)
    (case xg_InvalidTrips => k_is)
    (case xh_InvalidTrips => k_is)
    (case xb_InvalidTown => k_is)
    (case xd_InvalidTown => k_is)
    (case xt_InvalidTown => k_is)
    (case xb_InvalidText => k_is)
    (case xd_InvalidText => k_is)
    (case xt_InvalidText => k_is)
    (case xb_InvalidTrips => k_is)
    (case xd_InvalidTrips => k_is)
    (case xt_InvalidTrips => k_is)
    (case xb_InvalidCount => k_is)
    (case xd_InvalidCount => k_is)
    (case xt_InvalidCount => k_is)
    (case xb_InvalidLife => k_is)
    (case xd_InvalidLife => k_is)
    (case xt_InvalidLife => k_is)
    (case xb_InvalidLoad => k_is)
    (case xd_InvalidLoad => k_is)
    (case xt_InvalidLoad => k_is)
    (case xb_UnknownPlace => k_is)
    (case xd_UnknownPlace => k_is)
    (case xt_UnknownPlace => k_is)
    (case xb_UnknownBridge => k_is)
    (case xd_UnknownBridge => k_is)
    (case xt_UnknownBridge => k_is)
    (case xb_UnknownKind => k_is)
    (case xd_UnknownKind => k_is)
    (case xt_UnknownKind => k_is)
    (case xb_TooManyBridges => k_is)
    (case xd_TooManyBridges => k_is)
    (case xt_TooManyBridges => k_is)
    (case xb_DifferentTowns => k_is)
    (case xd_DifferentTowns => k_is)
    (case xt_DifferentTowns => k_is)
    (case xb_Contradiction => k_is)
    (case xd_Contradiction => k_is)
    (case xt_Contradiction => k_is)
    (case xb_BridgeError => k_is)
    (case xd_BridgeError => k_is)
    (case xt_BridgeError => k_is)
    (case pb_Town_bridges => k_is)
    (case pc_Town_bridges => k_is)
    (case pb_Town_text => k_is)
    (case pc_Town_text => k_is)
    (case pb_Town_place_count => k_is)
    (case pc_Town_place_count => k_is)
    (case g_MAX_LENGTH => k_is)
    (case g_DIGITS => k_is)
    (case g_PLACES => k_is)
    (case g_BRIDGE => k_is)
    (case z_list => k_is)
    (case z_range => k_is)
    (case z_int => k_is)
    (case z_max => k_is)
    (case z_len => k_is)
    (case z_tuple => k_is)
    (case z_str => k_is)
    (case z_enumerate => k_is)
    (case z_isinstance => k_is)
    (case z_dict => k_is)
    (case z_bool => k_is)
    (case z_ValueError => k_is)
    (case bi_BridgeError => k_is)
    (case kc_InvalidTown => k_is)
    (case l_InvalidTown__init => k_is)
    (case c_InvalidTown__init => k_is)
    (case k_InvalidTown__init => k_is)
    (case ty_InvalidTown__init => k_is)
    (case ox_InvalidTown => k_is)
    (case bm_InvalidTown => rfl)
    (case kc_InvalidText => k_is)
    (case l_InvalidText__init => k_is)
    (case c_InvalidText__init => k_is)
    (case k_InvalidText__init => k_is)
    (case ty_InvalidText__init => k_is)
    (case ox_InvalidText => k_is)
    (case bm_InvalidText => rfl)
    (case xa_InvalidTown => k_is)
    (case xm_InvalidTown => k_is)
    (case ss_InvalidTown_InvalidTown => k_is)
    (case ss_InvalidTown_InvalidText => k_is)
    (case ss_InvalidTown_InvalidTrips => k_is)
    (case ss_InvalidTown_InvalidCount => k_is)
    (case ss_InvalidTown_InvalidLife => k_is)
    (case ss_InvalidTown_InvalidLoad => k_is)
    (case ss_InvalidTown_UnknownPlace => k_is)
    (case ss_InvalidTown_UnknownBridge => k_is)
    (case ss_InvalidTown_UnknownKind => k_is)
    (case ss_InvalidTown_TooManyBridges => k_is)
    (case ss_InvalidTown_DifferentTowns => k_is)
    (case ss_InvalidTown_Contradiction => k_is)
    (case ss_InvalidTown_ValueError => k_is)
    (case ss_InvalidTown_BridgeError => k_is)
    (case xa_InvalidText => k_is)
    (case xm_InvalidText => k_is)
    (case ss_InvalidText_InvalidText => k_is)
    (case ss_InvalidText_InvalidTown => k_is)
    (case ss_InvalidText_InvalidTrips => k_is)
    (case ss_InvalidText_InvalidCount => k_is)
    (case ss_InvalidText_InvalidLife => k_is)
    (case ss_InvalidText_InvalidLoad => k_is)
    (case ss_InvalidText_UnknownPlace => k_is)
    (case ss_InvalidText_UnknownBridge => k_is)
    (case ss_InvalidText_UnknownKind => k_is)
    (case ss_InvalidText_TooManyBridges => k_is)
    (case ss_InvalidText_DifferentTowns => k_is)
    (case ss_InvalidText_Contradiction => k_is)
    (case ss_InvalidText_ValueError => k_is)
    (case ss_InvalidText_BridgeError => k_is)
    (case sp_get => k_is)
    (case sp_tak => k_is)
    (case hcd => rfl)
    (case lk => k_is)
    (case v11 => rfl)
    (case w11 => rfl)
    (case v18 => rfl)
    (case v7 => rfl)
    (case v9 => rfl)
    (case v10 => rfl)
    (case nP => first | rfl | decide +kernel)
