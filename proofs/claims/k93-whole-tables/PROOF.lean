import PyProof.Rows.All
import Wide.All
import OpenK.AllK
import Wide.FinOn
import HandS.ForMost
import KE.RegKSuper
import HandS.Base
import HandS.Call
import HandS.List
import HandS.Comp
import HandS.Text
import KE.SortData
import HandS.Conv
import HandS.IsInst
import HandS.Zip
import HandS.TupAny
import HandS.TupMul
import HandS.Deep
import HandS.Style
import HandS.SortInts
import KE.GoesMore
import KE.GoesZip
import KE.GoesEnum
import HandS.ForExc
import HandS.ExcInit
import HandS.ExcSuper
import HandS.ExcField
import HandS.TryMany
import KE.KExcSuper
import KE.KSuper
import HandS.MakeKwOnly
import KE.SortKeyHeap
import HandS.SortKw
import PySem.Challenge.RW_howeverlaid_k93_whole_tables
set_option Elab.async false
set_option linter.all false
set_option maxRecDepth 1000000
set_option maxHeartbeats 4000000
/-! Fw, part A: plain data, a small syntax of our own, and its evaluator. -/
namespace Fw
open PySem

/-- plain data: tuples and lists by value, changing objects by number -/
inductive D where
  | non | bl (b : Bool) | int (i : Int) | str (x : Str)
  | tup (xs : List D) | lst (xs : List D) | scr (xs : List Int) | obj (n : Nat)

/-- a changing object; fT: a dict that is not changed any more; ins: an instance of the class that the module calls c -/
inductive Ob where
  | ins (c : Str) (fs : List (Str × D)) | lst (xs : List D) | dK (kvs : List (L2.Key × D)) | dT (kvs : List (List L2.Key × D)) | fT (kvs : List (List L2.Key × D))

abbrev Sto := List (Option Ob)
abbrev En := List (Option D)

mutual
def D.cl : D → Bool
  | .obj _ => false
  | .tup xs => clL xs
  | .lst xs => clL xs
  | .non => true
  | .bl _ => true
  | .int _ => true
  | .str _ => true
  | .scr _ => true
def clL : List D → Bool
  | [] => true
  | d :: ds => d.cl && clL ds
end

def getO (s : Sto) (n : Nat) : Option Ob := s[n]?.getD none
def setO (s : Sto) (n : Nat) (o : Option Ob) : Sto := s.set n o

/-- operators -/
inductive Op where | add | sub | mul | fdiv | mod | pow | shl
inductive Cp where | eq | ne | lt | le | gt | ge | isN | notN | isin | eqD | neD | notin
inductive Ty where | tuple | list | str | int | bool
inductive B1 where | len | abs | int | bool | sum | tup | lst | all | any

mutual
inductive E where
  | var (i : Nat) | non | bl (b : Bool) | int (i : Int) | str (x : Str)
  | tup (es : Es) | lst (es : Es) | newL (es : Es) | newK | newT | disp (ks : List Str) (es : Es)
  | bin (o : Op) (a b : E) | cmp (o : Cp) (a b : E) | chn (o p : Cp) (a b c : E)
  | not (a : E) | and (a b : E) | or (a b : E) | ife (t : T) (a b : E)
  | idx (a b : E) | dget (a k : E) | dnin (k a : E) | din (k a : E) | slc (a : E) (lo hi : Oe)
  | call (p : Bool) (i : Nat) (es : Es) | callK (p : Bool) (i : Nat) (perm : List Nat) (es ks : Es)
  | b1 (f : B1) (a : E) | newLst (a : E) | tupRg (a : E) | lstRg (a : E) | newLstRg (a : E) | max2 (a b : E) | isI (a : E) (c : Ty) | join (a b : E)
  | pop (a : E) | popAt (a b : E) | app (a b : E) | ext (a b : E)
  | newSort (a : E)
  | fld (a : E) (f : Str) | mk (c : Str) (i : Nat) (es : Es) | meth (c m : Str) (i : Nat) (a : E) (es : Es)
  | mkK (c : Str) (i : Nat) (perm : List Nat) (es ks : Es) | methK (c m : Str) (i : Nat) (perm : List Nat) (a : E) (es ks : Es)
  | rev (a : E) | sort (a : E)
  | lc (g : G) (it : It) (t : T) (e : E) (own : List Nat) | newLc (g : G) (it : It) (t : T) (e : E) (own : List Nat)
inductive Es where | nil | cons (e : E) (es : Es)
inductive Oe where | none | some (e : E)
inductive T where | tru (e : E) | val (e : E) | and (a b : T) | or (a b : T) | not (a : T) | yes
inductive It where | seq (e : E) | rng1 (e : E) | rng2 (a b : E) | zip (a b : E) | enum (e : E) | keys (i : Nat)
inductive G where | name (i : Nat) | tup (gs : Gs)
inductive Gs where | nil | cons (g : G) (gs : Gs)
end

/-! expressions that may raise -/
mutual
inductive Xe where
  | e (a : E) | call (p : Bool) (i : Nat) (es : Es) | callK (p : Bool) (i : Nat) (perm : List Nat) (es ks : Es) | meth (c m : Str) (i : Nat) (a : E) (es : Es)
  | tup (xs : Xs) | lst (xs : Xs) | ife (t : T) (a b : Xe) | idx (x : Xe) (b : E) | bin (o : Op) (x y : Xe)
inductive Xs where | nil | cons (x : Xe) (xs : Xs)
end
/-! what an except suite hands back: the fields by name -/
mutual
inductive HE where | e (a : E) | xf (f : Str) | tup (hs : HEs)
inductive HEs where | nil | cons (h : HE) (hs : HEs)
end
/-- except cls [as slot]: return h -/
structure Hd where
  cls : Str
  slot : Option Nat
  ret : HE

mutual
inductive S where
  | retX (x : Xe) | exprX (x : Xe) | asgX (g : G) (x : Xe) | raise (c : Str) (fs : List Str) (es : Es) | try_ (b : Ss) (hs : List Hd)
  | setp (o i o2 i2 e e2 : E)
  | sfld (c : Str) (o : E) (f : Str) (e : E) | asg (g : G) (e : E) | par (i j : Nat) (a b : E) | seti (o i e : E) | dput (o k e : E) | expr (e : E) | ret (e : E)
  | ife (t : T) (a b : Ss) | whl (t : T) (b : Ss) | for_ (g : G) (it : It) (b : Ss) | never | pass | brk | cont
inductive Ss where | nil | cons (s : S) (ss : Ss) | frz (i : Nat) (ss : Ss)
end

def Es.of : List E → Es
  | [] => .nil
  | e :: r => .cons e (Es.of r)
def Ss.of : List S → Ss
  | [] => .nil
  | e :: r => .cons e (Ss.of r)
def Xs.of : List Xe → Xs
  | [] => .nil
  | e :: r => .cons e (Xs.of r)
def HEs.of : List HE → HEs
  | [] => .nil
  | e :: r => .cons e (HEs.of r)
def Gs.of : List G → Gs
  | [] => .nil
  | e :: r => .cons e (Gs.of r)

def Es.n : Es → Nat
  | .nil => 0
  | .cons _ r => r.n + 1
/-- arguments and keywords' values in the parameters' order -/
def permL {α : Type} (d : α) (na : Nat) (perm : List Nat) (us ws : List α) : List α := if us.length = na ∧ na + ws.length = perm.length then perm.map fun j => (us ++ ws).getD j d else []

/-- the sizes that we let -/
abbrev ZL : Nat := 1000000

def scalEq : D → D → Option Bool
  | .non, .non => some true
  | .non, .int _ => some false
  | .int _, .non => some false
  | .non, .bl _ => some false
  | .bl _, .non => some false
  | .non, .str _ => some false
  | .str _, .non => some false
  | .int i, .int j => some (i == j)
  | .bl i, .bl j => some (i == j)
  | .str i, .str j => some (i == j)
  | .int _, .str _ => some false
  | .str _, .int _ => some false
  | .bl _, .str _ => some false
  | .str _, .bl _ => some false
  | _, _ => none

mutual
def D.toP : D → Option PyData
  | .non => some .none
  | .bl b => some (.bool b)
  | .int i => some (.int i)
  | .str x => some (.str x)
  | .tup xs => (toPL xs).map .tuple
  | .lst xs => (toPL xs).map .list
  | .scr _ => none
  | .obj _ => none
def toPL : List D → Option (List PyData)
  | [] => some []
  | d :: ds => match d.toP, toPL ds with
    | some p, some ps => some (p :: ps)
    | _, _ => none
end

def evBin : Op → D → D → Option D
  | .add, .int i, .int j => some (.int (i + j))
  | .add, .str i, .str j => if i.length + j.length ≤ ZL then some (.str (i ++ j)) else none
  | .add, .tup a, .tup b => if a.length + b.length ≤ ZL then some (.tup (a ++ b)) else none
  | .add, .lst a, .lst b => if a.length + b.length ≤ ZL then some (.lst (a ++ b)) else none
  | .sub, .int i, .int j => some (.int (i - j))
  | .mul, .int i, .int j => if (-(2 ^ 64) < i ∧ i < 2 ^ 64) ∨ (-(2 ^ 64) < j ∧ j < 2 ^ 64) then some (.int (i * j)) else none
  | .mul, .tup a, .int k => if a ≠ [] ∧ 1 ≤ k ∧ k ≤ 1000 ∧ a.length ≤ 1000 then some (.tup (List.replicate k.toNat a).flatten) else none
  | .fdiv, .int i, .int j => if j ≠ 0 ∧ j.natAbs < 1073741824 then some (.int (i.fdiv j)) else none
  | .mod, .int i, .int j => if j ≠ 0 then some (.int (i.fmod j)) else none
  | .pow, .int i, .int j => if 0 ≤ j ∧ j ≤ 1000000 ∧ i.natAbs < 2 ^ 64 then some (.int (i ^ j.toNat)) else none
  | .shl, .int i, .int j => if 0 ≤ j ∧ j ≤ 1000000 ∧ i.natAbs < 2 ^ 64 then some (.int (i * 2 ^ j.toNat)) else none
  | _, _, _ => none

def flatD : D → Bool
  | .non => true
  | .bl _ => true
  | .int _ => true
  | .str _ => true
  | _ => false
/-- == of flat things, as in x in xs -/
def eqFD : D → D → Bool
  | .non, .non => true
  | .bl a, .bl b => a == b
  | .bl a, .int b => (if a then 1 else 0) == b
  | .int a, .bl b => a == (if b then 1 else 0)
  | .int a, .int b => a == b
  | .str a, .str b => a == b
  | _, _ => false
def seqD : D → Option (List D)
  | .tup xs => some xs
  | .lst xs => some xs
  | _ => none
def inD (x y : D) : Option Bool :=
  match seqD y with
  | some ys =>
    if flatD x = true ∧ ys.all flatD = true then some (ys.any fun z => eqFD z x)
    else match y, x.toP, y.toP with
      | .lst _, some p, some (.list ps) => if SeqAt.shaped p = true ∧ SeqAt.shaped (.list ps) = true then some (ps.any fun z => PyData.eqv z p) else none
      | _, _, _ => none
  | none => none

/-- == of plain data at any depth -/
def eqDD (x y : D) : Option Bool := match x.toP, y.toP with
  | some p, some q => if SeqAt.shaped p = true ∧ SeqAt.shaped q = true then some (PyData.eqv p q) else none
  | _, _ => none
def evCmp : Cp → D → D → Option Bool
  | .eq, x, y => scalEq x y
  | .ne, x, y => (scalEq x y).map (!·)
  | .lt, .int i, .int j => some (decide (i < j))
  | .le, .int i, .int j => some (decide (i ≤ j))
  | .gt, .int i, .int j => some (decide (j < i))
  | .ge, .int i, .int j => some (decide (j ≤ i))
  | .isN, x, .non => match x with
    | .non => some true
    | _ => some false
  | .notN, x, .non => match x with
    | .non => some false
    | _ => some true
  | .isin, x, y => inD x y
  | .notin, x, y => (inD x y).map (!·)
  | .eqD, x, y => eqDD x y
  | .neD, x, y => (eqDD x y).map (!·)
  | _, _, _ => none

def toKey : D → Option L2.Key
  | .int i => some (.inl i)
  | .str x => some (.inr x)
  | _ => none
def toKeys : List D → Option (List L2.Key)
  | [] => some []
  | d :: ds => match toKey d, toKeys ds with
    | some k, some ks => some (k :: ks)
    | _, _ => none
def ofKey : L2.Key → D
  | .inl i => .int i
  | .inr x => .str x
section
variable {κ : Type} [DecidableEq κ]
def lookD (kvs : List (κ × D)) (k : κ) : Option D := (kvs.find? fun kv => decide (kv.1 = k)).map (·.2)
def putD (kvs : List (κ × D)) (k : κ) (d : D) : List (κ × D) :=
  if (kvs.any fun kv => decide (kv.1 = k)) = true then kvs.map (fun kv => if kv.1 = k then (kv.1, d) else kv) else kvs ++ [(k, d)]
def mergeD (kvs more : List (κ × D)) : List (κ × D) := more.foldl (fun acc kv => putD acc kv.1 kv.2) kvs
end

/-- a field is set -/
def putFD (f : Str) (d : D) : List (Str × D) → List (Str × D)
  | [] => [(f, d)]
  | (g, x) :: r => if g = f then (g, d) :: r else (g, x) :: putFD f d r
/-- what a dict has for a key: none: no such dict or key's kind -/
def dLook (s : Sto) (a k : D) : Option (Option D) :=
  match a with
  | .obj n => match getO s n with
    | some (.dK kvs) => (toKey k).map (lookD kvs)
    | some (.dT kvs) => match k with
      | .tup ds => (toKeys ds).map (lookD kvs)
      | _ => none
    | some (.fT kvs) => match k with
      | .tup ds => (toKeys ds).map (lookD kvs)
      | _ => none
    | _ => none
  | _ => none

def lenD (s : Sto) : D → Option Nat
  | .tup xs => some xs.length
  | .lst xs => some xs.length
  | .scr xs => some xs.length
  | .str x => if x.length ≤ ZL then some x.length else none
  | .obj n => match getO s n with
    | some (.lst xs) => some xs.length
    | _ => none
  | _ => none
def blsD : List D → Option (List Bool)
  | [] => some []
  | .bl x :: r => (blsD r).map (x :: ·)
  | _ => none
def sumD : List D → Option Int
  | [] => some 0
  | .int i :: r => (sumD r).map (i + ·)
  | _ => none
def listD (s : Sto) : D → Option (List D)
  | .tup xs => some xs
  | .lst xs => some xs
  | .obj n => match getO s n with
    | some (.lst xs) => some xs
    | _ => none
  | _ => none
def evB1 (s : Sto) : B1 → D → Option D
  | .len, d => (lenD s d).map fun (n : Nat) => D.int (n : Int)
  | .abs, .int i => some (.int (if i < 0 then -i else i))
  | .int, .int i => some (.int i)
  | .int, .bl b => some (.int (if b then 1 else 0))
  | .bool, .int i => some (.bl (i != 0))
  | .bool, .bl b => some (.bl b)
  | .sum, .lst xs => (sumD xs).map .int
  | .all, .lst xs => (blsD xs).map fun bs => .bl (bs.all id)
  | .any, .lst xs => (blsD xs).map fun bs => .bl (bs.any id)
  | .tup, d => (listD s d).map .tup
  | .lst, d => (listD s d).map .lst
  | _, _ => none
def truD (s : Sto) : D → Option Bool
  | .non => some false
  | .bl b => some b
  | .int i => some (i != 0)
  | .str x => if x.length ≤ ZL then some ((x.length : Int) != 0) else none
  | .tup xs => some (!xs.isEmpty)
  | .lst xs => some (!xs.isEmpty)
  | .obj n => match getO s n with
    | some (.lst xs) => some (!xs.isEmpty)
    | _ => none
  | _ => none
def isID (s : Sto) : D → Ty → Option Bool
  | .non, _ => some false
  | .bl _, .bool => some true
  | .bl _, .int => some true
  | .bl _, _ => some false
  | .int _, .int => some true
  | .int _, _ => some false
  | .str _, .str => some true
  | .str _, _ => some false
  | .tup _, .tuple => some true
  | .tup _, _ => some false
  | .lst _, .list => some true
  | .lst _, _ => some false
  | .scr _, _ => none
  | .obj n, c => match getO s n with
    | some (.lst _) => some (match c with | .list => true | _ => false)
    | some (.dK _) => some false
    | some (.dT _) => some false
    | _ => none
def strsD : List D → Option (List Str)
  | [] => some []
  | .str x :: r => (strsD r).map (x :: ·)
  | _ => none
def atD (s : Sto) : D → D → Option D
  | .tup xs, .int i => L2.atI xs i
  | .lst xs, .int i => L2.atI xs i
  | .scr xs, .int i => (L2.atI xs i).map .int
  | .obj n, .int i => match getO s n with
    | some (.lst xs) => L2.atI xs i
    | _ => none
  | _, _ => none
def cutD {α : Type} (xs : List α) (lo hi : Option Int) : List α := (xs.drop (HT.sIx xs.length 0 lo)).take (HT.sIx xs.length xs.length hi - HT.sIx xs.length 0 lo)
def slcD : D → Option Int → Option Int → Option D
  | .tup xs, lo, hi => some (.tup (cutD xs lo hi))
  | .lst xs, lo, hi => some (.lst (cutD xs lo hi))
  | .scr xs, lo, hi => some (.lst ((cutD xs lo hi).map .int))
  | _, _, _ => none
def rgD (n : Int) : List D := (List.range n.toNat).map fun (i : Nat) => D.int (i : Int)
def rg2D (a b : Int) : List D := (List.range (b - a).toNat).map fun (i : Nat) => D.int (a + (i : Int))

mutual
def asgG : G → D → En → Option En
  | .name i, d, env => some (env.set i (some d))
  | .tup gs, d, env => match d with
    | .tup ds => asgGs gs ds env
    | _ => none
def asgGs : Gs → List D → En → Option En
  | .nil, [], env => some env
  | .cons g gs, d :: ds, env => (asgG g d env).bind fun e1 => asgGs gs ds e1
  | _, _, _ => none
end
mutual
def G.slots : G → List Nat
  | .name i => [i]
  | .tup gs => gs.slots
def Gs.slots : Gs → List Nat
  | .nil => []
  | .cons g gs => g.slots ++ gs.slots
end
def wipeD (env : En) : List Nat → En
  | [] => env
  | v :: vs => (wipeD env vs).set v none

/-- what is gone through -/
inductive Src where | vals (l : List D) | objl (n : Nat) (k : Nat)
def seqSrc (s : Sto) : D → Option Src
  | .tup xs => some (.vals xs)
  | .lst xs => some (.vals xs)
  | .scr xs => some (.vals (xs.map .int))
  | .obj n => match getO s n with
    | some (.lst xs) => some (.objl n xs.length)
    | _ => none
  | _ => none
def zipSrc (x y : D) : Option Src := match seqD x, seqD y with
  | some xs, some ys => some (.vals (List.zipWith (fun x y => D.tup [x, y]) xs ys))
  | _, _ => none
/-- with their numbers -/
def numD (k : Nat) : List D → List D
  | [] => []
  | d :: r => .tup [.int (k : Int), d] :: numD (k + 1) r
def enumSrc (x : D) : Option Src := (seqD x).map fun xs => .vals (numD 0 xs)

/-- what a def hands back: a value, or an exception of the class c with its fields -/
inductive Rv where | ok (d : D) | ex (c : Str) (fs : List (Str × D))
/-- what the defs are worth; how many turns a while has at most; the classes of exceptions: is c an h -/
structure Cc where
  fx : Nat → List D → Sto → Option (Rv × Sto)
  wf : Nat
  bs : Nat
  sub : Str → Str → Option Bool
def Rv.val : Option (Rv × Sto) → Option (D × Sto)
  | some (.ok d, s) => some (d, s)
  | _ => none
def Cc.fn (C : Cc) (i : Nat) (ds : List D) (s : Sto) : Option (D × Sto) := Rv.val (C.fx i ds s)
def clF : List (Str × D) → Bool
  | [] => true
  | p :: r => p.2.cl && clF r
def Rv.cl : Rv → Bool
  | .ok d => d.cl
  | .ex _ fs => clF fs
def Cc.run (C : Cc) (p : Bool) (i : Nat) (ds : List D) (s : Sto) : Option (D × Sto) :=
  match p with
  | true => if clL ds = true then match C.fn i ds [] with
      | some (d, _) => if d.cl = true then some (d, s) else none
      | none => none
    else none
  | false => C.fn i ds s
def Cc.runX (C : Cc) (p : Bool) (i : Nat) (ds : List D) (s : Sto) : Option (Rv × Sto) :=
  match p with
  | true => if clL ds = true then match C.fx i ds [] with
      | some (r, _) => if r.cl = true then some (r, s) else none
      | none => none
    else none
  | false => C.fx i ds s

def lcV (f : D → Sto → Option (Option D × Sto)) : List D → Sto → Option (List D × Sto)
  | [], s => some ([], s)
  | d :: ds, s => (f d s).bind fun p => (lcV f ds p.2).bind fun q => some (match p.1 with | some x => x :: q.1 | none => q.1, q.2)
def lcO (n : Nat) (f : D → Sto → Option (Option D × Sto)) : Nat → Nat → Sto → Option (List D × Sto)
  | 0, i, s => match getO s n with
    | some (.lst xs) => if xs.length ≤ i then some ([], s) else none
    | _ => none
  | m + 1, i, s => match getO s n with
    | some (.lst xs) => match xs[i]? with
      | some d => (f d s).bind fun p => (lcO n f m (i + 1) p.2).bind fun q => some (match p.1 with | some x => x :: q.1 | none => q.1, q.2)
      | none => none
    | _ => none
def srcGo (f : D → Sto → Option (Option D × Sto)) : Src → Sto → Option (List D × Sto)
  | .vals l, s => if l.length ≤ ZL then lcV f l s else none
  | .objl n k, s => if k ≤ ZL then lcO n f k 0 s else none
/-- sorted by an int key, equal ones keep their turns -/
def sortK {α : Type} (l : List (Int × α)) : List (Int × α) := l.mergeSort fun p q => decide (p.1 ≤ q.1)
/-- tuples by their first, an int -/
def keysOf : List D → Option (List (Int × D))
  | [] => some []
  | d :: r => match d with
    | .tup (.int k :: _) => (keysOf r).map ((k, d) :: ·)
    | _ => none

def tup1 : PyData → Bool
  | .tuple (_ :: _) => true
  | _ => false
def ntup : PyData → Bool
  | .none => false
  | .tuple _ => false
  | _ => true
def sortB (ps : List PyData) : Bool := ps.all tup1 || ps.all ntup
/-- sorted by the order of plain data, equal ones keep their turns -/
def sortDs (l : List D) : Option (List D) := match toPL l with
  | some ps => if l.length ≤ ZL ∧ (ps.all fun p => ps.all fun q => PySem.W.alike p q) = true ∧ sortB ps = true ∧ (ps.all fun p => decide (p.depth ≤ 32)) = true then some (((l.zip ps).mergeSort (PySem.W.dataLe false fun p => p.2)).map (·.1)) else none
  | none => none

mutual
def evE (C : Cc) (env : En) : E → Sto → Option (D × Sto)
  | .var i, s => match env[i]? with
    | some (some d) => some (d, s)
    | _ => none
  | .non, s => some (.non, s)
  | .bl b, s => some (.bl b, s)
  | .int i, s => some (.int i, s)
  | .str x, s => some (.str x, s)
  | .tup es, s => (evEs C env es s).bind fun p => if p.1.length ≤ ZL then some (.tup p.1, p.2) else none
  | .lst es, s => (evEs C env es s).bind fun p => if p.1.length ≤ ZL then some (.lst p.1, p.2) else none
  | .newL es, s => (evEs C env es s).bind fun p => if p.1.length ≤ ZL then some (.obj p.2.length, p.2 ++ [some (.lst p.1)]) else none
  | .newK, s => some (.obj s.length, s ++ [some (.dK [])])
  | .newT, s => some (.obj s.length, s ++ [some (.dT [])])
  | .disp ks es, s => (evEs C env es s).bind fun p => if p.1.length = ks.length ∧ ks.length ≤ 15 then some (.obj p.2.length, p.2 ++ [some (.dK (mergeD [] ((ks.map Sum.inr).zip p.1)))]) else none
  | .bin o a b, s => (evE C env a s).bind fun p => (evE C env b p.2).bind fun q => (evBin o p.1 q.1).map fun d => (d, q.2)
  | .cmp o a b, s => (evE C env a s).bind fun p => (evE C env b p.2).bind fun q => (evCmp o p.1 q.1).map fun r => (.bl r, q.2)
  | .chn o o' a b c, s => (evE C env a s).bind fun p => (evE C env b p.2).bind fun q => (evCmp o p.1 q.1).bind fun r =>
      if r = true then (evE C env c q.2).bind fun u => (evCmp o' q.1 u.1).map fun r' => (.bl r', u.2) else some (.bl false, q.2)
  | .not a, s => (evE C env a s).bind fun p => match p.1 with
    | .bl b => some (.bl (!b), p.2)
    | _ => none
  | .and a b, s => (evE C env a s).bind fun p => match p.1 with
    | .bl true => evE C env b p.2
    | .bl false => some (.bl false, p.2)
    | _ => none
  | .or a b, s => (evE C env a s).bind fun p => match p.1 with
    | .bl true => some (.bl true, p.2)
    | .bl false => evE C env b p.2
    | _ => none
  | .ife t a b, s => (evT C env t s).bind fun p => match p.1 with
    | true => evE C env a p.2
    | false => evE C env b p.2
  | .idx a b, s => (evE C env a s).bind fun p => (evE C env b p.2).bind fun q => (atD q.2 p.1 q.1).map fun d => (d, q.2)
  | .dget a k, s => (evE C env a s).bind fun p => (evE C env k p.2).bind fun q => match dLook q.2 p.1 q.1 with
    | some (some d) => some (d, q.2)
    | _ => none
  | .din k a, s => (evE C env k s).bind fun p => (evE C env a p.2).bind fun q => (dLook q.2 q.1 p.1).map fun o => (.bl o.isSome, q.2)
  | .dnin k a, s => (evE C env k s).bind fun p => (evE C env a p.2).bind fun q => (dLook q.2 q.1 p.1).map fun o => (.bl (!o.isSome), q.2)
  | .slc a lo hi, s => (evE C env a s).bind fun p => (evOe C env lo p.2).bind fun q => (evOe C env hi q.2).bind fun r => (slcD p.1 q.1 r.1).map fun d => (d, r.2)
  | .call p i es, s => (evEs C env es s).bind fun q => C.run p i q.1 q.2
  | .callK p i perm es ks, s => (evEs C env es s).bind fun q => (evEs C env ks q.2).bind fun r => C.run p i (permL .non es.n perm q.1 r.1) r.2
  | .b1 f a, s => (evE C env a s).bind fun p => (evB1 p.2 f p.1).map fun d => (d, p.2)
  | .newLst a, s => (evE C env a s).bind fun p => (listD p.2 p.1).map fun ds => (.obj p.2.length, p.2 ++ [some (.lst ds)])
  | .tupRg a, s => (evE C env a s).bind fun p => match p.1 with
    | .int n => if 0 ≤ n ∧ n ≤ ZL then some (.tup (rgD n), p.2) else none
    | _ => none
  | .lstRg a, s => (evE C env a s).bind fun p => match p.1 with
    | .int n => if 0 ≤ n ∧ n ≤ ZL then some (.lst (rgD n), p.2) else none
    | _ => none
  | .newLstRg a, s => (evE C env a s).bind fun p => match p.1 with
    | .int n => if 0 ≤ n ∧ n ≤ ZL then some (.obj p.2.length, p.2 ++ [some (.lst (rgD n))]) else none
    | _ => none
  | .max2 a b, s => (evE C env a s).bind fun p => (evE C env b p.2).bind fun q => match p.1, q.1 with
    | .int i, .int j => some (.int (if j > i then j else i), q.2)
    | _, _ => none
  | .isI a c, s => (evE C env a s).bind fun p => (isID p.2 p.1 c).map fun b => (.bl b, p.2)
  | .join a b, s => (evE C env a s).bind fun p => (evE C env b p.2).bind fun q => match p.1, q.1 with
    | .str x, .lst ds => (strsD ds).bind fun ys => if (ys.map (·.length)).sum + ys.length * x.length ≤ ZL then some (.str (Txt.join x ys), q.2) else none
    | _, _ => none
  | .pop a, s => (evE C env a s).bind fun p => match p.1 with
    | .obj n => match getO p.2 n with
      | some (.lst xs) => match xs[xs.length - 1]? with
        | some d => some (d, setO p.2 n (some (.lst xs.dropLast)))
        | none => none
      | _ => none
    | _ => none
  | .popAt a b, s => (evE C env a s).bind fun p => (evE C env b p.2).bind fun q => match p.1, q.1 with
    | .obj n, .int i => match getO q.2 n with
      | some (.lst xs) => if 0 ≤ i ∧ i < 2 ^ 63 then match xs[i.toNat]? with
          | some d => match getO p.2 n with
            | some (.lst _) => some (d, setO q.2 n (some (.lst (xs.eraseIdx i.toNat))))
            | _ => none
          | none => none
        else none
      | _ => none
    | _, _ => none
  | .app a b, s => (evE C env a s).bind fun p => (evE C env b p.2).bind fun q => match p.1 with
    | .obj n => match getO p.2 n, getO q.2 n with
      | some (.lst _), some (.lst xs) => if xs.length < ZL then some (.non, setO q.2 n (some (.lst (xs ++ [q.1])))) else none
      | _, _ => none
    | _ => none
  | .ext a b, s => (evE C env a s).bind fun p => (evE C env b p.2).bind fun q => match p.1, q.1 with
    | .obj n, .lst ys => match getO p.2 n, getO q.2 n with
      | some (.lst _), some (.lst xs) => if xs.length + ys.length ≤ ZL then some (.non, setO q.2 n (some (.lst (xs ++ ys)))) else none
      | _, _ => none
    | _, _ => none
  | .newSort a, s => (evE C env a s).bind fun p => match p.1 with
    | .obj n => match getO p.2 n with
      | some (.lst xs) => if xs.length ≤ 60 then (keysOf xs).map fun ks => (.obj p.2.length, p.2 ++ [some (.lst ((sortK ks).map (·.2)))]) else none
      | _ => none
    | _ => none
  | .fld a f, s => (evE C env a s).bind fun p => match p.1 with
    | .obj n => match getO p.2 n with
      | some (.ins _ fs) => (fs.lookup f).map fun d => (d, p.2)
      | _ => none
    | _ => none
  | .mk c i es, s => (evEs C env es s).bind fun q => match C.fn i (.obj q.2.length :: q.1) (q.2 ++ [some (.ins c [])]) with
    | some (.non, s') => some (.obj q.2.length, s')
    | _ => none
  | .meth c m i a es, s => (evE C env a s).bind fun p => match p.1 with
    | .obj n => match getO p.2 n with
      | some (.ins c' fs) => if c' = c ∧ fs.lookup m = none then (evEs C env es p.2).bind fun q => C.fn i (.obj n :: q.1) q.2 else none
      | _ => none
    | _ => none
  | .mkK c i perm es ks, s => (evEs C env es s).bind fun q => (evEs C env ks q.2).bind fun r => match C.fn i (permL .non (es.n + 1) perm (.obj r.2.length :: q.1) r.1) (r.2 ++ [some (.ins c [])]) with
    | some (.non, s') => some (.obj r.2.length, s')
    | _ => none
  | .methK c m i perm a es ks, s => (evE C env a s).bind fun p => match p.1 with
    | .obj n => match getO p.2 n with
      | some (.ins c' fs) => if c' = c ∧ fs.lookup m = none then (evEs C env es p.2).bind fun q => (evEs C env ks q.2).bind fun r => C.fn i (permL .non (es.n + 1) perm (.obj n :: q.1) r.1) r.2 else none
      | _ => none
    | _ => none
  | .rev a, s => (evE C env a s).bind fun p => match p.1 with
    | .tup xs => some (.tup xs.reverse, p.2)
    | .lst xs => some (.lst xs.reverse, p.2)
    | _ => none
  | .sort a, s => (evE C env a s).bind fun p => (listD p.2 p.1).bind fun ds => (sortDs ds).map fun es => (.lst es, p.2)
  | .lc g it t e own, s => if (g.slots.all fun i => own.contains i) = true then (evI C env it s).bind fun p =>
      (srcGo (fun d s1 => (asgG g d (wipeD env own)).bind fun e1 => (evT C e1 t s1).bind fun q => match q.1 with
        | true => (evE C e1 e q.2).map fun r => (some r.1, r.2)
        | false => some (none, q.2)) p.1 p.2).map fun q => (.lst q.1, q.2)
      else none
  | .newLc g it t e own, s => if (g.slots.all fun i => own.contains i) = true then (evI C env it s).bind fun p =>
      (srcGo (fun d s1 => (asgG g d (wipeD env own)).bind fun e1 => (evT C e1 t s1).bind fun q => match q.1 with
        | true => (evE C e1 e q.2).map fun r => (some r.1, r.2)
        | false => some (none, q.2)) p.1 p.2).map fun q => (.obj q.2.length, q.2 ++ [some (.lst q.1)])
      else none
def evEs (C : Cc) (env : En) : Es → Sto → Option (List D × Sto)
  | .nil, s => some ([], s)
  | .cons e es, s => (evE C env e s).bind fun p => (evEs C env es p.2).map fun q => (p.1 :: q.1, q.2)
def evOe (C : Cc) (env : En) : Oe → Sto → Option (Option Int × Sto)
  | .none, s => some (none, s)
  | .some e, s => (evE C env e s).bind fun p => match p.1 with
    | .int i => some (some i, p.2)
    | _ => none
def evT (C : Cc) (env : En) : T → Sto → Option (Bool × Sto)
  | .yes, s => some (true, s)
  | .tru e, s => (evE C env e s).bind fun p => (truD p.2 p.1).map fun b => (b, p.2)
  | .val e, s => (evE C env e s).bind fun p => match p.1 with
    | .bl b => some (b, p.2)
    | _ => none
  | .and a b, s => (evT C env a s).bind fun p => match p.1 with
    | true => evT C env b p.2
    | false => some (false, p.2)
  | .or a b, s => (evT C env a s).bind fun p => match p.1 with
    | true => some (true, p.2)
    | false => evT C env b p.2
  | .not a, s => (evT C env a s).map fun p => (!p.1, p.2)
def evI (C : Cc) (env : En) : It → Sto → Option (Src × Sto)
  | .seq e, s => (evE C env e s).bind fun p => (seqSrc p.2 p.1).map fun r => (r, p.2)
  | .rng1 e, s => (evE C env e s).bind fun p => match p.1 with
    | .int n => if -(ZL : Int) ≤ n ∧ n ≤ ZL then some (.vals (rgD n), p.2) else none
    | _ => none
  | .rng2 a b, s => (evE C env a s).bind fun p => (evE C env b p.2).bind fun q => match p.1, q.1 with
    | .int i, .int j => if -(ZL : Int) ≤ i ∧ i ≤ ZL ∧ -(ZL : Int) ≤ j ∧ j ≤ ZL then some (.vals (rg2D i j), q.2) else none
    | _, _ => none
  | .zip a b, s => (evE C env a s).bind fun p => (evE C env b p.2).bind fun q => (zipSrc p.1 q.1).map fun r => (r, q.2)
  | .enum e, s => (evE C env e s).bind fun p => (enumSrc p.1).map fun r => (r, p.2)
  | .keys _, _ => none
end

/-! ### expressions that may raise -/
mutual
def evX (C : Cc) (env : En) : Xe → Sto → Option (Rv × Sto)
  | .e a, s => (evE C env a s).map fun p => (.ok p.1, p.2)
  | .call p i es, s => (evEs C env es s).bind fun q => C.runX p i q.1 q.2
  | .callK p i perm es ks, s => (evEs C env es s).bind fun q => (evEs C env ks q.2).bind fun r => C.runX p i (permL .non es.n perm q.1 r.1) r.2
  | .meth c m i a es, s => (evE C env a s).bind fun p => match p.1 with
    | .obj n => match getO p.2 n with
      | some (.ins c' fs) => if c' = c ∧ fs.lookup m = none then (evEs C env es p.2).bind fun q => C.fx i (.obj n :: q.1) q.2 else none
      | _ => none
    | _ => none
  | .tup xs, s => match evXs C env xs s with
    | some (.ok (.tup ds), s1) => if ds.length ≤ ZL then some (.ok (.tup ds), s1) else none
    | some (.ex c fs, s1) => some (.ex c fs, s1)
    | _ => none
  | .lst xs, s => match evXs C env xs s with
    | some (.ok (.tup ds), s1) => if ds.length ≤ ZL then some (.ok (.lst ds), s1) else none
    | some (.ex c fs, s1) => some (.ex c fs, s1)
    | _ => none
  | .ife t a b, s => (evT C env t s).bind fun p => match p.1 with
    | true => evX C env a p.2
    | false => evX C env b p.2
  | .idx x b, s => match evX C env x s with
    | some (.ok d, s1) => (evE C env b s1).bind fun q => (atD q.2 d q.1).map fun d => (.ok d, q.2)
    | some (.ex c fs, s1) => some (.ex c fs, s1)
    | none => none
  | .bin o x y, s => match evX C env x s with
    | some (.ok d, s1) => match evX C env y s1 with
      | some (.ok d2, s2) => (evBin o d d2).map fun d => (.ok d, s2)
      | some (.ex c fs, s2) => some (.ex c fs, s2)
      | none => none
    | some (.ex c fs, s1) => some (.ex c fs, s1)
    | none => none
/-- several: a tuple of them -/
def evXs (C : Cc) (env : En) : Xs → Sto → Option (Rv × Sto)
  | .nil, s => some (.ok (.tup []), s)
  | .cons x xs, s => match evX C env x s with
    | some (.ok d, s1) => match evXs C env xs s1 with
      | some (.ok (.tup ds), s2) => some (.ok (.tup (d :: ds)), s2)
      | some (.ex c fs, s2) => some (.ex c fs, s2)
      | _ => none
    | some (.ex c fs, s1) => some (.ex c fs, s1)
    | none => none
end
mutual
def evHE (C : Cc) (env : En) (xf : List (Str × D)) : HE → Sto → Option (D × Sto)
  | .e a, s => evE C env a s
  | .xf f, s => (xf.lookup f).map fun d => (d, s)
  | .tup hs, s => (evHEs C env xf hs s).bind fun p => if p.1.length ≤ ZL then some (.tup p.1, p.2) else none
def evHEs (C : Cc) (env : En) (xf : List (Str × D)) : HEs → Sto → Option (List D × Sto)
  | .nil, s => some ([], s)
  | .cons h hs, s => (evHE C env xf h s).bind fun p => (evHEs C env xf hs p.2).map fun q => (p.1 :: q.1, q.2)
end

/-- how a statement ends -/
inductive Rs where
  | nx (env : En) (s : Sto) | rt (d : D) (s : Sto) | bk (env : En) (s : Sto) | ct (env : En) (s : Sto) | ex (c : Str) (fs : List (Str × D)) (env : En) (s : Sto)
def clrS (env : En) : Option Nat → En
  | some i => env.set i none
  | none => env
def xfOf (o : Option Nat) (fs : List (Str × D)) : List (Str × D) := match o with
  | some _ => fs
  | none => []
def slotOk (c : Str) (h : Hd) (env : En) : Bool := match h.slot with
  | some i => decide (c = h.cls) && decide (i < env.length)
  | none => true
/-- the first clause that takes it -/
def handle (C : Cc) (c : Str) (fs : List (Str × D)) (env : En) (s : Sto) : List Hd → Option Rs
  | [] => some (.ex c fs env s)
  | h :: r => match C.sub c h.cls with
    | some true => if slotOk c h env = true then (evHE C (clrS env h.slot) (xfOf h.slot fs) h.ret s).map fun p => .rt p.1 p.2 else none
    | some false => handle C c fs env s r
    | none => none

def forV (f : En → Sto → Option Rs) (g : G) : List D → En → Sto → Option Rs
  | [], env, s => some (.nx env s)
  | d :: ds, env, s => match asgG g d env with
    | none => none
    | some e1 => match f e1 s with
      | some (.nx e2 s2) => forV f g ds e2 s2
      | some (.ct e2 s2) => forV f g ds e2 s2
      | some (.bk e2 s2) => some (.nx e2 s2)
      | some (.rt x s2) => some (.rt x s2)
      | some (.ex c fs e2 s2) => some (.ex c fs e2 s2)
      | none => none
def whileF (c : En → Sto → Option (Bool × Sto)) (f : En → Sto → Option Rs) : Nat → En → Sto → Option Rs
  | 0, _, _ => none
  | n + 1, env, s => match c env s with
    | none => none
    | some (false, s1) => some (.nx env s1)
    | some (true, s1) => match f env s1 with
      | some (.nx e2 s2) => whileF c f n e2 s2
      | some (.ct e2 s2) => whileF c f n e2 s2
      | some (.bk e2 s2) => some (.nx e2 s2)
      | some (.rt x s2) => some (.rt x s2)
      | some (.ex c fs e2 s2) => some (.ex c fs e2 s2)
      | none => none
/-- a slot's list, from here on by value; its dict, from here on unchanged -/
def frzS (bs : Nat) (i : Nat) (env : En) (s : Sto) : Option (En × Sto) :=
  match env[i]? with
  | some (some (.obj n)) => if bs ≤ n then match getO s n with
      | some (.lst xs) => some (env.set i (some (.lst xs)), setO s n none)
      | some (.dT kvs) => some (env, setO s n (some (.fT kvs)))
      | _ => none
    else none
  | some (some _) => some (env, s)
  | _ => none
/-- the keys of a slot's dict, which is not changed from here on -/
def keySrc (bs : Nat) (s : Sto) (env : En) (i : Nat) : Option (List D × Sto) :=
  match env[i]? with
  | some (some (.obj n)) => if bs ≤ n then match getO s n with
      | some (.dT kvs) => some (kvs.map fun kv => .tup (kv.1.map ofKey), setO s n (some (.fT kvs)))
      | _ => none
    else none
  | _ => none

/-- no exception leaves it -/
def noEx : Option Rs → Option Rs
  | some (.ex _ _ _ _) => none
  | r => r
/-- xs[i] = d -/
def setiF (o i d : D) (s : Sto) : Option Sto := match o, i with
  | .obj n, .int k => match getO s n with
    | some (.lst xs) => match L2.ixN xs.length k with
      | some j => some (setO s n (some (.lst (xs.set j d))))
      | none => none
    | _ => none
  | _, _ => none

mutual
def exS (C : Cc) : S → En → Sto → Option Rs
  | .retX x, env, s => match evX C env x s with
    | some (.ok d, s1) => some (.rt d s1)
    | some (.ex c fs, s1) => some (.ex c fs env s1)
    | none => none
  | .exprX x, env, s => match evX C env x s with
    | some (.ok _, s1) => some (.nx env s1)
    | some (.ex c fs, s1) => some (.ex c fs env s1)
    | none => none
  | .asgX g x, env, s => match evX C env x s with
    | some (.ok d, s1) => (asgG g d env).map fun e1 => .nx e1 s1
    | some (.ex c fs, s1) => some (.ex c fs env s1)
    | none => none
  | .raise c fs es, env, s => (evEs C env es s).bind fun p => if p.1.length = fs.length then some (.ex c (fs.zip p.1).reverse env p.2) else none
  | .try_ b hs, env, s => match exSs C b env s with
    | some (.ex c fs e1 s1) => handle C c fs e1 s1 hs
    | r => r
  | .setp o i o2 i2 e e2, env, s => (evE C env e s).bind fun p => (evE C env e2 p.2).bind fun p2 => (evE C env o p2.2).bind fun q => (evE C env i q.2).bind fun r => (setiF q.1 r.1 p.1 r.2).bind fun s1 =>
      (evE C env o2 s1).bind fun q2 => (evE C env i2 q2.2).bind fun r2 => (setiF q2.1 r2.1 p2.1 r2.2).map fun s2 => .nx env s2
  | .sfld c o f e, env, s => (evE C env e s).bind fun p => (evE C env o p.2).bind fun q => match q.1 with
    | .obj n => match getO q.2 n with
      | some (.ins c' fs) => if c' = c ∧ fs.length < 1000 then some (.nx env (setO q.2 n (some (.ins c (putFD f p.1 fs))))) else none
      | _ => none
    | _ => none
  | .asg g e, env, s => (evE C env e s).bind fun p => (asgG g p.1 env).map fun e1 => .nx e1 p.2
  | .par i j a b, env, s => (evE C env a s).bind fun p => (evE C env b p.2).map fun q => .nx ((env.set i (some p.1)).set j (some q.1)) q.2
  | .seti o i e, env, s => (evE C env e s).bind fun p => (evE C env o p.2).bind fun q => (evE C env i q.2).bind fun r => match q.1, r.1 with
    | .obj n, .int k => match getO r.2 n with
      | some (.lst xs) => match L2.ixN xs.length k with
        | some j => some (.nx env (setO r.2 n (some (.lst (xs.set j p.1)))))
        | none => none
      | _ => none
    | _, _ => none
  | .dput o k e, env, s => (evE C env e s).bind fun p => (evE C env o p.2).bind fun q => (evE C env k q.2).bind fun r => match q.1 with
    | .obj n => match getO r.2 n with
      | some (.dK kvs) => if kvs.length < ZL then (toKey r.1).map fun k' => .nx env (setO r.2 n (some (.dK (putD kvs k' p.1)))) else none
      | some (.dT kvs) => if kvs.length < ZL then match r.1 with
          | .tup ds => (toKeys ds).map fun k' => .nx env (setO r.2 n (some (.dT (putD kvs k' p.1))))
          | _ => none
        else none
      | _ => none
    | _ => none
  | .expr e, env, s => (evE C env e s).map fun p => .nx env p.2
  | .ret e, env, s => (evE C env e s).map fun p => .rt p.1 p.2
  | .ife t a b, env, s => (evT C env t s).bind fun p => match p.1 with
    | true => exSs C a env p.2
    | false => exSs C b env p.2
  | .whl t b, env, s => whileF (fun e s1 => evT C e t s1) (fun e s1 => exSs C b e s1) C.wf env s
  | .for_ g it b, env, s => match it with
    | .keys i => (keySrc C.bs s env i).bind fun p => noEx (forV (fun e s1 => exSs C b e s1) g p.1 env p.2)
    | it' => (evI C env it' s).bind fun p => match p.1 with
      | .vals l => forV (fun e s1 => exSs C b e s1) g l env p.2
      | .objl _ _ => none
  | .never, _, _ => none
  | .pass, env, s => some (.nx env s)
  | .brk, env, s => some (.bk env s)
  | .cont, env, s => some (.ct env s)
def exSs (C : Cc) : Ss → En → Sto → Option Rs
  | .nil, env, s => some (.nx env s)
  | .cons a r, env, s => match exS C a env s with
    | some (.nx e1 s1) => exSs C r e1 s1
    | x => x
  | .frz i r, env, s => (frzS C.bs i env s).bind fun p => exSs C r p.1 p.2
end

/-- a def: how many parameters, how many slots, its body -/
structure Df where
  np : Nat
  ns : Nat
  body : Ss
def Df.go (f : Df) (sub : Str → Str → Option Bool) (fx : Nat → List D → Sto → Option (Rv × Sto)) (wf : Nat) (ds : List D) (s : Sto) : Option (Rv × Sto) :=
  if ds.length = f.np then match exSs ⟨fx, wf, s.length, sub⟩ f.body (ds.map some ++ List.replicate (f.ns - f.np) none) s with
    | some (.rt d s1) => some (.ok d, s1)
    | some (.nx _ s1) => some (.ok .non, s1)
    | some (.ex c fs _ s1) => some (.ex c fs, s1)
    | _ => none
  else none
/-- a program: its defs, its exceptions' classes -/
structure Pr where
  df : Nat → Option Df
  sub : Str → Str → Option Bool
/-- the program's defs, so many calls deep -/
def runX (P : Pr) (wf : Nat) : Nat → Nat → List D → Sto → Option (Rv × Sto)
  | 0, _, _, _ => none
  | k + 1, i, ds, s => match P.df i with
    | some f => f.go P.sub (runX P wf k) wf ds s
    | none => none
def run (P : Pr) (wf k i : Nat) (ds : List D) (s : Sto) : Option (D × Sto) := Rv.val (runX P wf k i ds s)
end Fw

/-! Fw, part B: what plain data stands for in the abstract heap; steps; what lies new. -/
namespace Fw
open PySem PySem.Spec PyProof.Rows L2

/-- F: what is taken to stand for ever; r: where the changing objects lie -/
structure Gh where
  F : Hp
  r : List Addr

mutual
inductive Rep (K : PySem.W.Frag) (g : Gh) : V → D → Prop
  | non : Rep K g .non .non
  | bl (b : Bool) : Rep K g (.bl b) (.bl b)
  | int (i : Int) : Rep K g (.int i) (.int i)
  | str (x : Str) : Rep K g (.str x) (.str x)
  | tup {a : Addr} {vs : List V} {ds : List D} : g.F a = some (.tup vs) → RepL K g vs ds → Rep K g (.ref a) (.tup ds)
  | lst {a : Addr} {vs : List V} {ds : List D} : g.F a = some (.lst vs) → RepL K g vs ds → Rep K g (.ref a) (.lst ds)
  | scr {a : Addr} {ns : List Int} : SqL K g.F a (ns.map V.int) → Rep K g (.ref a) (.scr ns)
  | obj {a : Addr} {n : Nat} : g.r[n]? = some a → Rep K g (.ref a) (.obj n)
inductive RepL (K : PySem.W.Frag) (g : Gh) : List V → List D → Prop
  | nil : RepL K g [] []
  | cons {v : V} {vs : List V} {d : D} {ds : List D} : Rep K g v d → RepL K g vs ds → RepL K g (v :: vs) (d :: ds)
end
/-- slots -/
inductive EnR (K : PySem.W.Frag) (g : Gh) : En → L2.St → Prop
  | nil : EnR K g [] []
  | no {x : Option V} {e : En} {t : L2.St} : EnR K g e t → EnR K g (none :: e) (x :: t)
  | yes {v : V} {d : D} {e : En} {t : L2.St} : Rep K g v d → EnR K g e t → EnR K g (some d :: e) (some v :: t)
inductive RepM {κ : Type} (K : PySem.W.Frag) (g : Gh) : List (κ × V) → List (κ × D) → Prop
  | nil : RepM K g [] []
  | cons {k : κ} {v : V} {d : D} {a : List (κ × V)} {b : List (κ × D)} : Rep K g v d → RepM K g a b → RepM K g ((k, v) :: a) ((k, d) :: b)

structure Gh.le (g g' : Gh) : Prop where
  F : ∀ a o, g.F a = some o → g'.F a = some o
  r : ∀ (n : Nat) (a : Addr), g.r[n]? = some a → g'.r[n]? = some a
theorem Gh.le.refl (g : Gh) : g.le g := ⟨fun _ _ h => h, fun _ _ h => h⟩
theorem Gh.le.trans {a b c : Gh} (x : a.le b) (y : b.le c) : a.le c := ⟨fun p o h => y.F p o (x.F p o h), fun p o h => y.r p o (x.r p o h)⟩

section
variable {K : PySem.W.Frag} {g g' : Gh}
theorem sqL_le (e : ∀ a o, g.F a = some o → g'.F a = some o) {a : Addr} {xs : List V} (h : SqL K g.F a xs) : SqL K g'.F a xs := by
  rcases h with (h | ⟨o, h⟩) | h
  · exact .inl (.inl (e _ _ h))
  · exact .inl (.inr ⟨o, e _ _ h⟩)
  · exact .inr h
mutual
theorem Rep.mono (e : g.le g') : ∀ {v : V} {d : D}, Rep K g v d → Rep K g' v d
  | _, _, .non => .non
  | _, _, .bl b => .bl b
  | _, _, .int i => .int i
  | _, _, .str x => .str x
  | _, _, .tup h r => .tup (e.F _ _ h) (RepL.mono e r)
  | _, _, .lst h r => .lst (e.F _ _ h) (RepL.mono e r)
  | _, _, .scr h => .scr (sqL_le e.F h)
  | _, _, .obj h => .obj (e.r _ _ h)
theorem RepL.mono (e : g.le g') : ∀ {vs : List V} {ds : List D}, RepL K g vs ds → RepL K g' vs ds
  | _, _, .nil => .nil
  | _, _, .cons h r => .cons (Rep.mono e h) (RepL.mono e r)
end
theorem EnR.mono (e : g.le g') : ∀ {a : En} {b : L2.St}, EnR K g a b → EnR K g' a b
  | _, _, .nil => .nil
  | _, _, .no r => .no (EnR.mono e r)
  | _, _, .yes h r => .yes (h.mono e) (EnR.mono e r)
theorem RepM.mono {κ : Type} (e : g.le g') : ∀ {a : List (κ × V)} {b : List (κ × D)}, RepM K g a b → RepM K g' a b
  | _, _, .nil => .nil
  | _, _, .cons h r => .cons (h.mono e) (RepM.mono e r)
mutual
/-- data without changing objects stands whatever the objects are -/
theorem Rep.free {F : Hp} {r r' : List Addr} : ∀ {v : V} {d : D}, d.cl = true → Rep K ⟨F, r⟩ v d → Rep K ⟨F, r'⟩ v d
  | _, _, _, .non => .non
  | _, _, _, .bl b => .bl b
  | _, _, _, .int i => .int i
  | _, _, _, .str x => .str x
  | _, .tup ds, c, .tup h q => .tup h (RepL.free (ds := ds) (by simpa [D.cl] using c) q)
  | _, .lst ds, c, .lst h q => .lst h (RepL.free (ds := ds) (by simpa [D.cl] using c) q)
  | _, _, _, .scr h => .scr h
  | _, .obj n, c, .obj h => by simp [D.cl] at c
theorem RepL.free {F : Hp} {r r' : List Addr} : ∀ {vs : List V} {ds : List D}, clL ds = true → RepL K ⟨F, r⟩ vs ds → RepL K ⟨F, r'⟩ vs ds
  | _, _, _, .nil => .nil
  | _, d :: ds, c, .cons h q => by
    simp only [clL, Bool.and_eq_true] at c
    exact .cons (Rep.free c.1 h) (RepL.free c.2 q)
end
theorem RepL.length : ∀ {vs : List V} {ds : List D}, RepL K g vs ds → vs.length = ds.length
  | _, _, .nil => rfl
  | _, _, .cons _ r => congrArg (· + 1) (RepL.length r)
theorem RepL.get : ∀ {vs : List V} {ds : List D} {i : Nat} {d : D}, RepL K g vs ds → ds[i]? = some d → ∃ v, vs[i]? = some v ∧ Rep K g v d
  | _, _, _, _, .nil, e => by simp at e
  | _, _, 0, _, .cons h _, e => by simp at e; subst e; exact ⟨_, rfl, h⟩
  | _, _, i + 1, _, .cons _ r, e => by
    obtain ⟨v, h1, h2⟩ := RepL.get (i := i) r (by simpa using e)
    exact ⟨v, by simpa using h1, h2⟩
theorem RepL.getV : ∀ {vs : List V} {ds : List D} {i : Nat} {v : V}, RepL K g vs ds → vs[i]? = some v → ∃ d, ds[i]? = some d ∧ Rep K g v d
  | _, _, _, _, .nil, e => by simp at e
  | _, _, 0, _, .cons h _, e => by simp at e; subst e; exact ⟨_, rfl, h⟩
  | _, _, i + 1, _, .cons _ r, e => by
    obtain ⟨v, h1, h2⟩ := RepL.getV (i := i) r (by simpa using e)
    exact ⟨v, by simpa using h1, h2⟩
theorem RepL.append : ∀ {vs ws : List V} {ds es : List D}, RepL K g vs ds → RepL K g ws es → RepL K g (vs ++ ws) (ds ++ es)
  | _, _, _, _, .nil, q => q
  | _, _, _, _, .cons h r, q => .cons h (RepL.append r q)
theorem RepL.take : ∀ {vs : List V} {ds : List D} (n : Nat), RepL K g vs ds → RepL K g (vs.take n) (ds.take n)
  | _, _, 0, _ => .nil
  | _, _, _ + 1, .nil => .nil
  | _, _, n + 1, .cons h r => .cons h (RepL.take n r)
theorem RepL.drop : ∀ {vs : List V} {ds : List D} (n : Nat), RepL K g vs ds → RepL K g (vs.drop n) (ds.drop n)
  | _, _, 0, r => r
  | _, _, _ + 1, .nil => .nil
  | _, _, n + 1, .cons _ r => RepL.drop n r
theorem RepL.set {v : V} {d : D} (q : Rep K g v d) : ∀ {vs : List V} {ds : List D} (n : Nat), RepL K g vs ds → RepL K g (vs.set n v) (ds.set n d)
  | _, _, _, .nil => .nil
  | _, _, 0, .cons _ r => .cons q r
  | _, _, n + 1, .cons h r => .cons h (RepL.set q n r)
theorem RepL.dropLast : ∀ {vs : List V} {ds : List D}, RepL K g vs ds → RepL K g vs.dropLast ds.dropLast
  | _, _, .nil => .nil
  | _, _, .cons _ .nil => .nil
  | _, _, .cons h (.cons h2 r) => .cons h (RepL.dropLast (.cons h2 r))
theorem RepL.eraseIdx : ∀ {vs : List V} {ds : List D} (n : Nat), RepL K g vs ds → RepL K g (vs.eraseIdx n) (ds.eraseIdx n)
  | _, _, _, .nil => .nil
  | _, _, 0, .cons _ r => r
  | _, _, n + 1, .cons h r => .cons h (RepL.eraseIdx n r)
theorem RepL.flat {vs : List V} {ds : List D} (q : RepL K g vs ds) : ∀ (n : Nat), RepL K g (List.replicate n vs).flatten (List.replicate n ds).flatten
  | 0 => .nil
  | n + 1 => by
    rw [List.replicate_succ, List.replicate_succ, List.flatten_cons, List.flatten_cons]
    exact q.append (RepL.flat q n)
theorem RepL.ints : ∀ (ns : List Int), RepL K g (ns.map V.int) (ns.map D.int)
  | [] => .nil
  | i :: r => .cons (.int i) (RepL.ints r)
theorem RepL.strs : ∀ {vs : List V} {ds : List D} {ys : List Str}, RepL K g vs ds → strsD ds = some ys → vs = ys.map V.str
  | _, _, _, .nil, e => by simp [strsD] at e; subst e; rfl
  | _, d :: ds, ys, .cons h r, e => by
    cases h with
    | str x =>
      simp only [strsD, Option.map_eq_some_iff] at e
      obtain ⟨zs, h1, rfl⟩ := e
      rw [RepL.strs r h1, List.map_cons]
    | _ => simp [strsD] at e
theorem RepL.sums : ∀ {vs : List V} {ds : List D} {i : Int}, RepL K g vs ds → sumD ds = some i → ∃ ns : List Int, vs = ns.map V.int ∧ ns.sum = i
  | _, _, _, .nil, e => by simp [sumD] at e; subst e; exact ⟨[], rfl, rfl⟩
  | _, d :: ds, _, .cons h r, e => by
    cases h with
    | int j =>
      simp only [sumD, Option.map_eq_some_iff] at e
      obtain ⟨k, h1, rfl⟩ := e
      obtain ⟨ns, h2, rfl⟩ := RepL.sums r h1
      exact ⟨j :: ns, by rw [h2, List.map_cons], by rw [List.sum_cons]⟩
    | _ => simp [sumD] at e
theorem RepL.keys : ∀ {vs : List V} {ds : List D} {ks : List Key}, RepL K g vs ds → toKeys ds = some ks → vs = ks.map kV
  | _, _, _, .nil, e => by simp [toKeys] at e; subst e; rfl
  | _, d :: ds, ks, .cons h r, e => by
    simp only [toKeys] at e
    split at e
    · rename_i k kr h1 h2
      cases e
      rw [RepL.keys r h2, List.map_cons]
      cases h with
      | int j => simp [toKey] at h1; subst h1; rfl
      | str x => simp [toKey] at h1; subst h1; rfl
      | _ => simp [toKey] at h1
    · cases e
theorem Rep.key {v : V} {d : D} {k : Key} (h : Rep K g v d) (e : toKey d = some k) : v = kV k := by
  cases h with
  | int j => simp [toKey] at e; subst e; rfl
  | str x => simp [toKey] at e; subst e; rfl
  | _ => simp [toKey] at e
theorem Rep.ofKey (k : Key) : Rep K g (kV k) (Fw.ofKey k) := by
  cases k with
  | inl i => exact .int i
  | inr x => exact .str x
theorem RepL.ofKeys : ∀ (ks : List Key), RepL K g (ks.map kV) (ks.map Fw.ofKey)
  | [] => .nil
  | k :: r => .cons (Rep.ofKey k) (RepL.ofKeys r)
theorem EnR.length : ∀ {a : En} {b : L2.St}, EnR K g a b → b.length = a.length
  | _, _, .nil => rfl
  | _, _, .no r => congrArg (· + 1) (EnR.length r)
  | _, _, .yes _ r => congrArg (· + 1) (EnR.length r)
theorem EnR.get : ∀ {a : En} {b : L2.St} {i : Nat} {d : D}, EnR K g a b → a[i]? = some (some d) → ∃ v, b[i]? = some (some v) ∧ Rep K g v d
  | _, _, _, _, .nil, e => by simp at e
  | _, _, 0, _, .no _, e => by simp at e
  | _, _, 0, _, .yes h _, e => by simp at e; subst e; exact ⟨_, rfl, h⟩
  | _, _, i + 1, _, .no r, e => by
    obtain ⟨v, h1, h2⟩ := EnR.get (i := i) r (by simpa using e)
    exact ⟨v, by simpa using h1, h2⟩
  | _, _, i + 1, _, .yes _ r, e => by
    obtain ⟨v, h1, h2⟩ := EnR.get (i := i) r (by simpa using e)
    exact ⟨v, by simpa using h1, h2⟩
theorem EnR.set {v : V} {d : D} (q : Rep K g v d) : ∀ {a : En} {b : L2.St} (n : Nat), EnR K g a b → EnR K g (a.set n (some d)) (b.set n (some v))
  | _, _, _, .nil => .nil
  | _, _, 0, .no r => .yes q r
  | _, _, 0, .yes _ r => .yes q r
  | _, _, n + 1, .no r => .no (EnR.set q n r)
  | _, _, n + 1, .yes h r => .yes h (EnR.set q n r)
theorem EnR.unset : ∀ {a : En} {b : L2.St} (n : Nat), EnR K g a b → EnR K g (a.set n none) (b.set n none)
  | _, _, _, .nil => .nil
  | _, _, 0, .no r => .no r
  | _, _, 0, .yes _ r => .no r
  | _, _, n + 1, .no r => .no (EnR.unset n r)
  | _, _, n + 1, .yes h r => .yes h (EnR.unset n r)
theorem EnR.wipe {a : En} {b : L2.St} (r : EnR K g a b) : ∀ (vs : List Nat), EnR K g (wipeD a vs) (L2.wipe b vs)
  | [] => r
  | v :: vs => EnR.unset v (EnR.wipe r vs)
theorem EnR.start : ∀ {vs : List V} {ds : List D} (n : Nat), RepL K g vs ds → EnR K g (ds.map some ++ List.replicate n none) (vs.map some ++ List.replicate n none)
  | _, _, 0, .nil => .nil
  | _, _, n + 1, .nil => .no (EnR.start n .nil)
  | _, _, n, .cons h r => .yes h (EnR.start n r)
/-- at slot n stands the same value, said otherwise -/
theorem EnR.reset {v : V} {d : D} (q : Rep K g v d) : ∀ {a : En} {b : L2.St} (n : Nat), EnR K g a b → b[n]? = some (some v) → EnR K g (a.set n (some d)) b
  | _, _, _, .nil, _ => .nil
  | _, _, 0, .no r, e => by simp at e; subst e; exact .yes q r
  | _, _, 0, .yes _ r, e => by simp at e; subst e; exact .yes q r
  | _, _, n + 1, .no r, e => .no (EnR.reset q n r (by simpa using e))
  | _, _, n + 1, .yes h r, e => .yes h (EnR.reset q n r (by simpa using e))
end

/-! ### dicts -/
section
variable {κ : Type} [DecidableEq κ] {K : PySem.W.Frag} {g : Gh}
theorem RepM.length : ∀ {a : List (κ × V)} {b : List (κ × D)}, RepM K g a b → a.length = b.length
  | _, _, .nil => rfl
  | _, _, .cons _ r => congrArg (· + 1) (RepM.length r)
theorem RepM.look (k : κ) : ∀ {a : List (κ × V)} {b : List (κ × D)}, RepM K g a b → (∀ d, lookD b k = some d → ∃ v, valV a k = some v ∧ Rep K g v d) ∧ (lookD b k = none → valV a k = none)
  | _, _, .nil => ⟨fun d e => by simp [lookD] at e, fun _ => rfl⟩
  | _, _, @RepM.cons _ _ _ k' v d a b h r => by
    by_cases e : k' = k
    · subst e
      rw [valV_pos (p := (k', v)) rfl]
      simp only [lookD, List.find?_cons, decide_true, Option.map_some]
      exact ⟨fun d' q => by cases q; exact ⟨v, rfl, h⟩, fun q => by cases q⟩
    · rw [valV_neg (p := (k', v)) e]
      have e2 : lookD ((k', d) :: b) k = lookD b k := by simp [lookD, List.find?_cons, e]
      rw [e2]
      exact RepM.look k r
theorem RepM.any (k : κ) : ∀ {a : List (κ × V)} {b : List (κ × D)}, RepM K g a b → (a.any fun kv => decide (kv.1 = k)) = (b.any fun kv => decide (kv.1 = k))
  | _, _, .nil => rfl
  | _, _, .cons _ r => by rw [List.any_cons, List.any_cons, RepM.any k r]
theorem RepM.upd {v : V} {d : D} (k : κ) (q : Rep K g v d) : ∀ {a : List (κ × V)} {b : List (κ × D)}, RepM K g a b → RepM K g (a.map fun kv => if kv.1 = k then (kv.1, v) else kv) (b.map fun kv => if kv.1 = k then (kv.1, d) else kv)
  | _, _, .nil => .nil
  | _, _, @RepM.cons _ _ _ k' v' d' a b h r => by
    rw [List.map_cons, List.map_cons]
    by_cases e : k' = k
    · rw [if_pos e, if_pos e]; exact .cons q (RepM.upd k q r)
    · rw [if_neg e, if_neg e]; exact .cons h (RepM.upd k q r)
theorem RepM.append : ∀ {a a' : List (κ × V)} {b b' : List (κ × D)}, RepM K g a b → RepM K g a' b' → RepM K g (a ++ a') (b ++ b')
  | _, _, _, _, .nil, q => q
  | _, _, _, _, .cons h r, q => .cons h (RepM.append r q)
theorem RepM.put {v : V} {d : D} (k : κ) (q : Rep K g v d) {a : List (κ × V)} {b : List (κ × D)} (r : RepM K g a b) : RepM K g (putK a k v) (putD b k d) := by
  unfold putK putD
  rw [r.any k]
  split
  · exact r.upd k q
  · exact r.append (.cons q .nil)
theorem RepM.merge {a : List (Key × V)} {b : List (Key × D)} (r : RepM K g a b) : ∀ {x : List (Key × V)} {y : List (Key × D)}, RepM K g x y → RepM K g (mergeK x a) (mergeD y b) := by
  unfold mergeK mergeD
  induction r with
  | nil => intro x y q; exact q
  | cons h _ ih => intro x y q; exact ih (q.put _ h)
theorem RepM.reverse : ∀ {a : List (κ × V)} {b : List (κ × D)}, RepM K g a b → RepM K g a.reverse b.reverse
  | _, _, .nil => .nil
  | _, _, .cons h r => by
    rw [List.reverse_cons, List.reverse_cons]
    exact (RepM.reverse r).append (.cons h .nil)
theorem RepM.zip : ∀ {ks : List κ} {vs : List V} {ds : List D}, RepL K g vs ds → RepM K g (ks.zip vs) (ks.zip ds)
  | [], _, _, _ => by rw [List.zip_nil_left, List.zip_nil_left]; exact .nil
  | _ :: _, _, _, .nil => by rw [List.zip_nil_right, List.zip_nil_right]; exact .nil
  | k :: ks, _, _, .cons h r => .cons h (RepM.zip r)
end

/-! ### the state -/
def RepO (K : PySem.W.Frag) (g : Gh) : HO → Ob → Prop
  | .ins C _ fs, .ins c gs => PySem.W.nsIn K mainGlobals c = some (some (.ref C)) ∧ Cls K C ∧ (∀ p ∈ fs, NoAttr K C p.1) ∧ RepM K g fs gs
  | .lst vs, .lst ds => RepL K g vs ds
  | .dK a, .dK b => RepM K g a b
  | .dT a, .dT b => RepM K g a b
  | _, _ => False
theorem RepO.mono {K : PySem.W.Frag} {g g' : Gh} (e : g.le g') {o : HO} {b : Ob} (h : RepO K g o b) : RepO K g' o b := by
  cases o <;> cases b <;> first
    | exact RepL.mono e h
    | exact RepM.mono e h
    | exact ⟨h.1, h.2.1, h.2.2.1, RepM.mono e h.2.2.2⟩
    | exact h
theorem RepO.mut {K : PySem.W.Frag} {g : Gh} {o : HO} {b : Ob} (h : RepO K g o b) : Mut (some o) := by
  cases o <;> cases b <;> first | exact trivial | exact (show False from h).elim
def isDct : HO → Bool
  | .dK _ => true
  | .dT _ => true
  | _ => false
def Ob.live : Ob → Bool
  | .fT _ => false
  | _ => true
def live (s : Sto) (n : Nat) : Prop := ∃ b, getO s n = some b ∧ b.live = true

structure Wf (K : PySem.W.Frag) (g : Gh) (s : Sto) (H : Hp) : Prop where
  ext : ∀ a o, g.F a = some o → H a = some o ∨ (isDct o = true ∧ ∃ od, H a = some (.frz od o))
  len : s.length = g.r.length
  at_ : ∀ (n : Nat) (a : Addr), g.r[n]? = some a → H a ≠ none
  liv : ∀ (n : Nat) (b : Ob), getO s n = some b → b.live = true → ∃ a o, g.r[n]? = some a ∧ g.F a = none ∧ H a = some o ∧ RepO K g o b
  fT : ∀ (n : Nat) kvs, getO s n = some (.fT kvs) → ∃ a kv, g.r[n]? = some a ∧ g.F a = some (.dT kv) ∧ RepM K g kv kvs
  inj : ∀ (n m : Nat) (a : Addr), live s n → live s m → g.r[n]? = some a → g.r[m]? = some a → n = m
/-- there is something, no tuple -/
def NT (H : Hp) (a : Addr) : Prop := H a ≠ none ∧ ∀ vs, H a ≠ some (.tup vs)
theorem NT.of {H : Hp} {a : Addr} {o : HO} (h : H a = some o) (n : ∀ vs, o ≠ .tup vs) : NT H a := ⟨(by rw [h]; intro z; cases z), fun vs z => (by rw [h] at z; cases z; exact n vs rfl)⟩
theorem NT.upd {H : Hp} {a p : Addr} {o : HO} (h : NT H a) (n : a = p → ∀ vs, o ≠ .tup vs) : NT (upd H p o) a := by
  by_cases z : a = p
  · subst z; exact .of upd_same (n rfl)
  · unfold NT; rw [upd_ne z]; exact h
/-- b: objects from here on are our own, they may be frozen -/
structure Step (b : Nat) (g : Gh) (s : Sto) (H : Hp) (g' : Gh) (s' : Sto) (H' : Hp) : Prop where
  le : g.le g'
  keep : ∀ a o, H a = some o → (∀ (n : Nat), live s n → g.r[n]? ≠ some a) → H' a = some o
  dom : ∀ a, H a ≠ none → H' a ≠ none
  nt : ∀ a, NT H a → NT H' a
  fresh : ∀ a, NT H a → g.F a = none → g'.F a = none ∨ ∃ n : Nat, b ≤ n ∧ g.r[n]? = some a
  own : ∀ (n : Nat) (a : Addr), g.r.length ≤ n → g'.r[n]? = some a → H a = none
  lm : ∀ n, live s' n → n < s.length → live s n
  grow : s.length ≤ s'.length

section
variable {K : PySem.W.Frag} {b : Nat} {g g' g1 g2 g3 : Gh} {s s' s1 s2 s3 : Sto} {H H' H1 H2 H3 : Hp}
theorem get_lt {s : Sto} {n : Nat} {o : Ob} (h : getO s n = some o) : n < s.length := by
  unfold getO at h
  by_cases q : n < s.length
  · exact q
  · rw [List.getElem?_eq_none (by omega)] at h; cases h
theorem live_lt {n : Nat} (h : live s n) : n < s.length := let ⟨_, e, _⟩ := h; get_lt e
theorem Step.refl : Step b g s H g s H where
  le := .refl g
  keep := fun _ _ h _ => h
  dom := fun _ h => h
  nt := fun _ h => h
  fresh := fun _ _ h => .inl h
  own := fun n a h e => by rw [List.getElem?_eq_none h] at e; cases e
  lm := fun _ h _ => h
  grow := Nat.le_refl _
theorem Wf.r_lt (W : Wf K g s H) {n : Nat} {a : Addr} (e : g.r[n]? = some a) : n < s.length := by
  obtain ⟨h, _⟩ := List.getElem?_eq_some_iff.mp e
  rw [W.len]; exact h
theorem Wf.r_some (W : Wf K g s H) {n : Nat} (h : n < s.length) : ∃ a, g.r[n]? = some a := by
  rw [W.len] at h
  exact ⟨_, List.getElem?_eq_getElem h⟩
theorem Wf.fnone (W : Wf K g s H) {a : Addr} (h : H a = none) : g.F a = none := by
  cases q : g.F a with
  | none => rfl
  | some o =>
    rcases W.ext a o q with e | ⟨_, _, e⟩ <;> (rw [h] at e; cases e)
theorem Step.trans (W1 : Wf K g1 s1 H1) (W2 : Wf K g2 s2 H2) (x : Step b g1 s1 H1 g2 s2 H2) (y : Step b g2 s2 H2 g3 s3 H3) : Step b g1 s1 H1 g3 s3 H3 where
  le := x.le.trans y.le
  keep := fun a o h hn => y.keep a o (x.keep a o h hn) fun n hl e => by
    by_cases hi : n < s1.length
    · obtain ⟨c, hc⟩ := W1.r_some hi
      have e2 := x.le.r n c hc
      rw [e] at e2; cases e2
      exact hn n (x.lm n hl hi) hc
    · have := x.own n a (by rw [← W1.len]; omega) e
      rw [h] at this; cases this
  dom := fun a h => y.dom a (x.dom a h)
  nt := fun a h => y.nt a (x.nt a h)
  fresh := fun a h f => by
    rcases x.fresh a h f with f2 | q
    · rcases y.fresh a (x.nt a h) f2 with f3 | ⟨n, hb, e⟩
      · exact .inl f3
      · right
        by_cases hi : n < s1.length
        · obtain ⟨c, hc⟩ := W1.r_some hi
          have e2 := x.le.r n c hc
          rw [e] at e2; cases e2
          exact ⟨n, hb, hc⟩
        · exact absurd (x.own n a (by rw [← W1.len]; omega) e) h.1
    · exact .inr q
  own := fun n a h e => by
    by_cases hi : n < s2.length
    · obtain ⟨c, hc⟩ := W2.r_some hi
      have e2 := y.le.r n c hc
      rw [e] at e2; cases e2
      exact x.own n a h hc
    · have q := y.own n a (by rw [← W2.len]; omega) e
      cases z : H1 a with
      | none => rfl
      | some o => exact absurd q (x.dom a (by rw [z]; intro w; cases w))
  lm := fun n h hi => x.lm n (y.lm n h (Nat.lt_of_lt_of_le hi x.grow)) hi
  grow := Nat.le_trans x.grow y.grow

theorem Ob_live_of {o : HO} {q : Ob} (h : RepO K g o q) : q.live = true := by
  cases o <;> cases q <;> first | rfl | exact (show False from h).elim

/-- a new thing that never changes -/
theorem Wf.new (W : Wf K g s H) {p : Addr} {o : HO} (hp : H p = none) : Step b g s H ⟨upd g.F p o, g.r⟩ s (upd H p o) ∧ Wf K ⟨upd g.F p o, g.r⟩ s (upd H p o) := by
  have hf := W.fnone hp
  have le : g.le ⟨upd g.F p o, g.r⟩ := ⟨fun a u e => by
    show upd g.F p o a = some u
    rw [upd_ne (ne_of_none e hf)]; exact e, fun _ _ e => e⟩
  have nr : ∀ (n : Nat) (a : Addr), g.r[n]? = some a → a ≠ p := fun n a e z => by subst z; exact W.at_ n a e hp
  refine ⟨⟨le, fun a u e _ => ?_, fun a e => ?_, fun a e => e.upd fun z => absurd hp (z ▸ e.1), fun a e f => ?_, fun n a h e => ?_, fun _ h _ => h, Nat.le_refl _⟩, ⟨fun a u e => ?_, W.len, fun n a e => ?_, fun n q h hl => ?_, fun n kvs h => ?_, W.inj⟩⟩
  · rw [upd_ne (ne_of_none e hp)]; exact e
  · by_cases z : a = p
    · subst z; exact absurd hp e
    · rw [upd_ne z]; exact e
  · left
    show upd g.F p o a = none
    by_cases z : a = p
    · subst z; exact absurd hp e.1
    · rw [upd_ne z]; exact f
  · rw [List.getElem?_eq_none h] at e; cases e
  · by_cases z : a = p
    · subst z
      have e' : upd g.F a o a = some u := e
      rw [upd_same] at e'; cases e'
      exact .inl upd_same
    · have e' : upd g.F p o a = some u := e
      rw [upd_ne z] at e'
      rw [upd_ne z]
      exact W.ext a u e'
  · rw [upd_ne (nr n a e)]; exact W.at_ n a e
  · obtain ⟨a, u, h1, h2, h3, h4⟩ := W.liv n q h hl
    refine ⟨a, u, h1, ?_, ?_, h4.mono le⟩
    · show upd g.F p o a = none
      rw [upd_ne (nr n a h1)]; exact h2
    · rw [upd_ne (nr n a h1)]; exact h3
  · obtain ⟨a, kv, h1, h2, h3⟩ := W.fT n kvs h
    exact ⟨a, kv, h1, le.F _ _ h2, h3.mono le⟩

theorem getO_push {s : Sto} {q : Option Ob} {n : Nat} {o : Ob} (h : getO (s ++ [q]) n = some o) : getO s n = some o ∨ (n = s.length ∧ q = some o) := by
  unfold getO at h ⊢
  by_cases hi : n < s.length
  · rw [List.getElem?_append_left hi] at h; exact .inl h
  · by_cases e : n = s.length
    · subst e
      rw [List.getElem?_append_right (Nat.le_refl _), Nat.sub_self] at h
      exact .inr ⟨rfl, by simpa using h⟩
    · rw [List.getElem?_eq_none (by rw [List.length_append, List.length_singleton]; omega)] at h; cases h
theorem getO_push_same {s : Sto} {q : Option Ob} : getO (s ++ [q]) s.length = q := by
  unfold getO
  rw [List.getElem?_append_right (Nat.le_refl _), Nat.sub_self]; rfl
theorem getO_push_old {s : Sto} {q : Option Ob} {n : Nat} (h : n < s.length) : getO (s ++ [q]) n = getO s n := by
  unfold getO
  rw [List.getElem?_append_left h]
theorem getO_set {s : Sto} {q : Option Ob} {n m : Nat} {o : Ob} (h : getO (setO s n q) m = some o) : (m ≠ n ∧ getO s m = some o) ∨ (m = n ∧ q = some o ∧ n < s.length) := by
  unfold getO setO at h
  by_cases e : m = n
  · subst e
    by_cases hi : m < s.length
    · rw [List.getElem?_set_self hi] at h; exact .inr ⟨rfl, by simpa using h, hi⟩
    · rw [List.getElem?_eq_none (by rw [List.length_set]; omega)] at h; cases h
  · rw [List.getElem?_set_ne (fun z => e z.symm)] at h
    exact .inl ⟨e, h⟩

/-- a new thing that may change -/
theorem Wf.push (W : Wf K g s H) {p : Addr} {o : HO} {q : Ob} (hp : H p = none) (hr : RepO K g o q) : Step b g s H ⟨g.F, g.r ++ [p]⟩ (s ++ [some q]) (upd H p o) ∧ Wf K ⟨g.F, g.r ++ [p]⟩ (s ++ [some q]) (upd H p o) ∧ Rep K ⟨g.F, g.r ++ [p]⟩ (.ref p) (.obj s.length) := by
  have hf := W.fnone hp
  have nr : ∀ (n : Nat) (a : Addr), g.r[n]? = some a → a ≠ p := fun n a e z => by subst z; exact W.at_ n a e hp
  have le : g.le ⟨g.F, g.r ++ [p]⟩ := ⟨fun _ _ e => e, fun n a e => by
    obtain ⟨h, _⟩ := List.getElem?_eq_some_iff.mp e
    show (g.r ++ [p])[n]? = some a
    rw [List.getElem?_append_left h]; exact e⟩
  have at_p : (g.r ++ [p])[s.length]? = some p := by
    rw [W.len, List.getElem?_append_right (Nat.le_refl _), Nat.sub_self]; rfl
  have spl : ∀ (n : Nat) (a : Addr), (g.r ++ [p])[n]? = some a → g.r[n]? = some a ∨ (n = s.length ∧ a = p) := fun n a e => by
    by_cases hi : n < g.r.length
    · rw [List.getElem?_append_left hi] at e; exact .inl e
    · by_cases z : n = s.length
      · subst z; rw [at_p] at e; cases e; exact .inr ⟨rfl, rfl⟩
      · rw [List.getElem?_eq_none (by rw [List.length_append, List.length_singleton]; have := W.len; omega)] at e; cases e
  have lq := Ob_live_of hr
  refine ⟨⟨le, fun a u e _ => ?_, fun a e => ?_, fun a e => e.upd fun z => absurd hp (z ▸ e.1), fun a e f => .inl f, fun n a h e => ?_, fun n h hi => ?_, by rw [List.length_append]; omega⟩, ⟨fun a u e => ?_, by rw [List.length_append, List.length_append, W.len]; rfl, fun n a e => ?_, fun n c h hl => ?_, fun n kvs h => ?_, fun n m a hn hm en em => ?_⟩, .obj at_p⟩
  · rw [upd_ne (ne_of_none e hp)]; exact e
  · by_cases z : a = p
    · subst z; exact absurd hp e
    · rw [upd_ne z]; exact e
  · rcases spl n a e with e | ⟨rfl, rfl⟩
    · rw [List.getElem?_eq_none h] at e; cases e
    · exact hp
  · obtain ⟨c, h, hl⟩ := h
    rw [getO_push_old hi] at h
    exact ⟨c, h, hl⟩
  · have e' : g.F a = some u := e
    have z : a ≠ p := ne_of_none e' hf
    rw [upd_ne z]
    exact W.ext a u e'
  · rcases spl n a e with e | ⟨rfl, rfl⟩
    · rw [upd_ne (nr n a e)]; exact W.at_ n a e
    · rw [upd_same]; intro z; cases z
  · rcases getO_push h with h' | ⟨rfl, h'⟩
    · obtain ⟨a, u, h1, h2, h3, h4⟩ := W.liv n c h' hl
      exact ⟨a, u, le.r _ _ h1, h2, by rw [upd_ne (nr n a h1)]; exact h3, h4.mono le⟩
    · cases h'
      exact ⟨p, o, at_p, hf, upd_same, hr.mono le⟩
  · rcases getO_push h with h' | ⟨rfl, h'⟩
    · obtain ⟨a, kv, h1, h2, h3⟩ := W.fT n kvs h'
      exact ⟨a, kv, le.r _ _ h1, h2, h3.mono le⟩
    · cases h'; cases lq
  · have old : ∀ k, live (s ++ [some q]) k → k ≠ s.length → live s k := fun k ⟨c, h, hl⟩ ne => by
      rcases getO_push h with h | ⟨z, _⟩
      · exact ⟨c, h, hl⟩
      · exact absurd z ne
    rcases spl n a en with en1 | ⟨e1, e2⟩ <;> rcases spl m a em with em1 | ⟨e3, e4⟩
    · have : ∀ (k : Nat) (c : Addr), g.r[k]? = some c → k ≠ s.length := fun k c e z => by
        subst z; rw [W.len, List.getElem?_eq_none (Nat.le_refl _)] at e; cases e
      exact W.inj n m a (old n hn (this n a en1)) (old m hm (this m a em1)) en1 em1
    · exact absurd e4 (nr n a en1)
    · exact absurd e2 (nr m a em1)
    · rw [e1, e3]

/-- a changing thing changes -/
theorem Wf.write (W : Wf K g s H) {n : Nat} {a : Addr} {c q : Ob} {o : HO} (hc : getO s n = some c) (hl : c.live = true) (ha : g.r[n]? = some a) (hr : RepO K g o q) : Step b g s H g (setO s n (some q)) (upd H a o) ∧ Wf K g (setO s n (some q)) (upd H a o) := by
  obtain ⟨a', u, h1, h2, h3, h4⟩ := W.liv n c hc hl
  rw [ha] at h1; cases h1
  have lv : live s n := ⟨c, hc, hl⟩
  have lq := Ob_live_of hr
  have back : ∀ m, live (setO s n (some q)) m → live s m := fun m ⟨d, h, hd⟩ => by
    rcases getO_set h with ⟨_, h⟩ | ⟨rfl, h, _⟩
    · exact ⟨d, h, hd⟩
    · exact lv
  have nt0 : ∀ vs, o ≠ .tup vs := fun vs z => by subst z; cases q <;> exact (show False from hr).elim
  refine ⟨⟨.refl g, fun b u e hn => ?_, fun b e => ?_, fun _ e => e.upd fun _ => nt0, fun _ _ f => .inl f, fun m b h e => ?_, fun m h _ => back m h, by unfold setO; rw [List.length_set]; exact Nat.le_refl _⟩, ⟨fun b u e => ?_, by unfold setO; rw [List.length_set]; exact W.len, fun m b e => ?_, fun m d h hd => ?_, fun m kvs h => ?_, fun m k b hm hk em ek => W.inj m k b (back m hm) (back k hk) em ek⟩⟩
  · have z : b ≠ a := fun z => by subst z; exact hn n lv ha
    rw [upd_ne z]; exact e
  · by_cases z : b = a
    · subst z; rw [upd_same]; intro w; cases w
    · rw [upd_ne z]; exact e
  · rw [List.getElem?_eq_none h] at e; cases e
  · have z : b ≠ a := ne_of_none e h2
    rw [upd_ne z]; exact W.ext b u e
  · by_cases z : b = a
    · subst z; rw [upd_same]; intro w; cases w
    · rw [upd_ne z]; exact W.at_ m b e
  · rcases getO_set h with ⟨ne, h⟩ | ⟨rfl, h, _⟩
    · obtain ⟨b, v, k1, k2, k3, k4⟩ := W.liv m d h hd
      refine ⟨b, v, k1, k2, ?_, k4⟩
      have z : b ≠ a := fun z => by subst z; exact ne (W.inj m n b ⟨d, h, hd⟩ lv k1 ha)
      rw [upd_ne z]; exact k3
    · cases h
      exact ⟨a, o, ha, h2, upd_same, hr⟩
  · rcases getO_set h with ⟨_, h⟩ | ⟨_, h, _⟩
    · exact W.fT m kvs h
    · cases h; cases lq

/-! ### the same in single moves -/
/-- something outside of what is known changes -/
theorem Step.off (x : Step b g1 s1 H1 g s H) {p : Addr} {o : HO} (h : H1 p = none) : Step b g1 s1 H1 g s (upd H p o) where
  le := x.le
  keep := fun a u e hn => by rw [upd_ne (ne_of_none e h)]; exact x.keep a u e hn
  dom := fun a e => by
    by_cases z : a = p
    · subst z; exact absurd h e
    · rw [upd_ne z]; exact x.dom a e
  nt := fun a e => (x.nt a e).upd fun z => absurd h (z ▸ e.1)
  fresh := x.fresh
  own := x.own
  lm := x.lm
  grow := x.grow
theorem Wf.off (W : Wf K g s H) {p : Addr} {o : HO} (hf : g.F p = none) (hn : ∀ n : Nat, g.r[n]? ≠ some p) : Wf K g s (upd H p o) where
  ext := fun a u e => by rw [upd_ne (ne_of_none e hf)]; exact W.ext a u e
  len := W.len
  at_ := fun n a e => by
    have z : a ≠ p := fun z => by subst z; exact hn n e
    rw [upd_ne z]; exact W.at_ n a e
  liv := fun n q h hl => by
    obtain ⟨a, u, h1, h2, h3, h4⟩ := W.liv n q h hl
    have z : a ≠ p := fun z => by subst z; exact hn n h1
    exact ⟨a, u, h1, h2, by rw [upd_ne z]; exact h3, h4⟩
  fT := W.fT
  inj := W.inj
theorem le_adopt {p : Addr} {o : HO} (hf : g.F p = none) : g.le ⟨upd g.F p o, g.r⟩ := ⟨fun a u e => by
    show upd g.F p o a = some u
    rw [upd_ne (ne_of_none e hf)]; exact e, fun _ _ e => e⟩
/-- something that stands is known from here on -/
theorem Step.adopt (x : Step b g1 s1 H1 g s H) {p : Addr} {o : HO} (h : H1 p = none) (hf : g.F p = none) : Step b g1 s1 H1 ⟨upd g.F p o, g.r⟩ s H where
  le := x.le.trans (le_adopt hf)
  keep := x.keep
  dom := x.dom
  nt := x.nt
  fresh := fun a e f => by
    have z : a ≠ p := fun z => by subst z; exact absurd h e.1
    rcases x.fresh a e f with q | q
    · left
      show upd g.F p o a = none
      rw [upd_ne z]; exact q
    · exact .inr q
  own := x.own
  lm := x.lm
  grow := x.grow
theorem Wf.adopt (W : Wf K g s H) {p : Addr} {o : HO} (hf : g.F p = none) (hn : ∀ n : Nat, live s n → g.r[n]? ≠ some p) (h : H p = some o) : Wf K ⟨upd g.F p o, g.r⟩ s H where
  ext := fun a u e => by
    have e' : upd g.F p o a = some u := e
    by_cases z : a = p
    · subst z; rw [upd_same] at e'; cases e'; exact .inl h
    · rw [upd_ne z] at e'; exact W.ext a u e'
  len := W.len
  at_ := W.at_
  liv := fun n q hq hl => by
    obtain ⟨a, u, h1, h2, h3, h4⟩ := W.liv n q hq hl
    have z : a ≠ p := fun z => by subst z; exact hn n ⟨q, hq, hl⟩ h1
    refine ⟨a, u, h1, ?_, h3, h4.mono (le_adopt hf)⟩
    show upd g.F p o a = none
    rw [upd_ne z]; exact h2
  fT := fun n kvs h => by
    obtain ⟨a, kv, h1, h2, h3⟩ := W.fT n kvs h
    exact ⟨a, kv, h1, (le_adopt hf).F _ _ h2, h3.mono (le_adopt hf)⟩
  inj := W.inj
/-- a tuple that stands is known from here on -/
theorem Wf.learn (W : Wf K g s H) {p : Addr} {vs : List V} (h : H p = some (.tup vs)) : ∃ g', Step b g s H g' s H ∧ Wf K g' s H ∧ g'.F p = some (.tup vs) := by
  cases q : g.F p with
  | some o =>
    refine ⟨g, .refl, W, ?_⟩
    rcases W.ext p o q with e | ⟨_, _, e⟩
    · rw [h] at e; cases e; exact q
    · rw [h] at e; cases e
  | none =>
    refine ⟨⟨upd g.F p (.tup vs), g.r⟩, ⟨le_adopt q, fun _ _ e _ => e, fun _ e => e, fun _ e => e, fun a e f => .inl ?_, fun n a h e => ?_, fun _ e _ => e, Nat.le_refl _⟩, W.adopt q (fun n hl e => ?_) h, upd_same⟩
    · have z : a ≠ p := fun z => by subst z; exact e.2 vs h
      show upd g.F p _ a = none
      rw [upd_ne z]; exact f
    · have e' : g.r[n]? = some a := e
      rw [List.getElem?_eq_none h] at e'; cases e'
    · obtain ⟨c, hc, hl⟩ := hl
      obtain ⟨a, u, h1, h2, h3, h4⟩ := W.liv n c hc hl
      rw [e] at h1; cases h1
      rw [h] at h3; cases h3
      cases c <;> exact (show False from h4).elim
/-- something that stands is ours to change from here on -/
theorem le_push {p : Addr} : g.le ⟨g.F, g.r ++ [p]⟩ := ⟨fun _ _ e => e, fun n a e => by
    obtain ⟨h, _⟩ := List.getElem?_eq_some_iff.mp e
    show (g.r ++ [p])[n]? = some a
    rw [List.getElem?_append_left h]; exact e⟩
theorem push_spl {r : List Addr} {p : Addr} {n : Nat} {a : Addr} (e : (r ++ [p])[n]? = some a) : r[n]? = some a ∨ (n = r.length ∧ a = p) := by
  by_cases hi : n < r.length
  · rw [List.getElem?_append_left hi] at e; exact .inl e
  · by_cases z : n = r.length
    · subst z
      rw [List.getElem?_append_right (Nat.le_refl _), Nat.sub_self] at e
      exact .inr ⟨rfl, (Option.some.inj e).symm⟩
    · rw [List.getElem?_eq_none (by rw [List.length_append, List.length_singleton]; omega)] at e; cases e
theorem Step.take (x : Step b g1 s1 H1 g s H) (W : Wf K g s H) {p : Addr} {q : Ob} (h : H1 p = none) : Step b g1 s1 H1 ⟨g.F, g.r ++ [p]⟩ (s ++ [some q]) H where
  le := x.le.trans le_push
  keep := x.keep
  dom := x.dom
  nt := x.nt
  fresh := x.fresh
  own := fun n a hn e => by
    rcases push_spl e with e | ⟨_, rfl⟩
    · exact x.own n a hn e
    · exact h
  lm := fun n ⟨c, hc, hl⟩ hi => by
    rw [getO_push_old (Nat.lt_of_lt_of_le hi x.grow)] at hc
    exact x.lm n ⟨c, hc, hl⟩ hi
  grow := by rw [List.length_append]; have := x.grow; omega
theorem Wf.take (W : Wf K g s H) {p : Addr} {o : HO} {q : Ob} (hf : g.F p = none) (hn : ∀ n : Nat, g.r[n]? ≠ some p) (h : H p = some o) (hr : RepO K g o q) : Wf K ⟨g.F, g.r ++ [p]⟩ (s ++ [some q]) H ∧ Rep K ⟨g.F, g.r ++ [p]⟩ (.ref p) (.obj s.length) := by
  have at_p : (g.r ++ [p])[s.length]? = some p := by
    rw [W.len, List.getElem?_append_right (Nat.le_refl _), Nat.sub_self]; rfl
  have old : ∀ k, live (s ++ [some q]) k → k ≠ s.length → live s k := fun k ⟨c, h, hl⟩ ne => by
    rcases getO_push h with h | ⟨z, _⟩
    · exact ⟨c, h, hl⟩
    · exact absurd z ne
  refine ⟨⟨W.ext, by rw [List.length_append, List.length_append, W.len]; rfl, fun n a e => ?_, fun n c hc hl => ?_, fun n kvs hc => ?_, fun n m a ln lm en em => ?_⟩, .obj at_p⟩
  · rcases push_spl e with e | ⟨_, rfl⟩
    · exact W.at_ n a e
    · rw [h]; intro z; cases z
  · rcases getO_push hc with h' | ⟨rfl, h'⟩
    · obtain ⟨a, u, h1, h2, h3, h4⟩ := W.liv n c h' hl
      exact ⟨a, u, le_push.r _ _ h1, h2, h3, h4.mono le_push⟩
    · cases h'
      exact ⟨p, o, at_p, hf, h, hr.mono le_push⟩
  · rcases getO_push hc with h' | ⟨rfl, h'⟩
    · obtain ⟨a, kv, h1, h2, h3⟩ := W.fT n kvs h'
      exact ⟨a, kv, le_push.r _ _ h1, h2, h3.mono le_push⟩
    · cases h'
      cases Ob_live_of hr
  · rcases push_spl en with en1 | ⟨e1, e2⟩ <;> rcases push_spl em with em1 | ⟨e3, e4⟩
    · have : ∀ (k : Nat) (c : Addr), g.r[k]? = some c → k ≠ s.length := fun k c e z => by
        subst z; rw [W.len, List.getElem?_eq_none (Nat.le_refl _)] at e; cases e
      exact W.inj n m a (old n ln (this n a en1)) (old m lm (this m a em1)) en1 em1
    · exact absurd (e4 ▸ en1) (hn n)
    · exact absurd (e2 ▸ em1) (hn m)
    · rw [e1, e3]
/-- the rest of a step is a step -/
theorem Step.keep_new (x : Step b g1 s1 H1 g s H) {p : Addr} {o : HO} (h : H1 p = some o) (hn : ∀ n : Nat, g1.r[n]? ≠ some p) (nt : ∀ vs, o ≠ .tup vs) (hf : g1.F p = none) (W1 : Wf K g1 s1 H1) : H p = some o ∧ g.F p = none ∧ ∀ n : Nat, g.r[n]? ≠ some p := by
  refine ⟨x.keep p o h fun n _ e => hn n e, ?_, fun n e => ?_⟩
  · rcases x.fresh p (.of h nt) hf with q | ⟨n, _, e⟩
    · exact q
    · exact absurd e (hn n)
  · by_cases hi : n < g1.r.length
    · have e2 := x.le.r n _ (List.getElem?_eq_getElem hi)
      rw [e] at e2
      exact hn n (by rw [List.getElem?_eq_getElem hi]; exact e2.symm)
    · have := x.own n p (by omega) e
      rw [h] at this; cases this
end
end Fw

/-! Fw, part R: rules that lack in the hand layer: enumerate and zip over lists and tuples alike, sorted of plain data, t[::-1]. -/
namespace FwR
open PySem PySem.Spec PyProof.Rows L2

/-! ### sorted of a tuple -/
section
open PySem.W PySem.Calls
variable {prog : Program} {w : World} {A : Around} {E : Value → Shared → Prop} {s : Shared}
theorem collect_tup {l : Addr} {vs : List Value} {Q : List Value → Shared → Prop} (hl : IsTup s.heap l vs.toArray)
    (h : Q vs { s with heap := (s.heap.push (seqObj "list" #[] 0)).update s.heap.objs.size (Obj.mapSeq (· ++ vs.toArray)) }) (hsz : vs.length ≤ sizeLine) :
    wpAny (model prog w) A (collect (.ref l)) Q E s := by
  obtain ⟨o, ho, hc, n, hd⟩ := id hl
  unfold collect
  refine wpAny_bind (wpAny_runValue (codeAny_builtin entry_proto_collect' ?_))
  show wpAny _ _ (do again (.builtin "list.__iadd__" ⟨[← newList [], .ref l], []⟩)) _ _ s
  refine wpAny_bind (wpAny_newList (wpAny_pure ⟨Code.quiet_builtin _ (by decide +kernel), codeAny_builtin entry_list_iadd' ?_⟩))
  show wpAny _ _ (Builtin.List.listExtendWith (.ref s.heap.objs.size) (.ref l) (.ref s.heap.objs.size)) _ _ { s with heap := s.heap.push (seqObj "list" #[] 0) }
  unfold Builtin.List.listExtendWith
  have ho' : (s.heap.push (seqObj "list" #[] 0)).get? l = some o := Heap.get?_push_of_some _ ho
  refine wpAny_bind (wpAny_typeOf (T := "tuple") ⟨o, ho', hc⟩ ?_)
  have ht : (Value.type "tuple" == Value.type "tuple") = true := by rfl
  rw [if_pos (by rw [ht]; simp)]
  refine wpAny_bind (listItems_at ho' hd ?_)
  refine wpAny_bind (listItems_at (xs := #[]) (n := 0) (Heap.get?_push_size _ rfl) rfl ?_)
  rw [if_neg (by simp)]
  refine wpAny_bind (listUpdate_at (xs := #[]) (n := 0) (Heap.get?_push_size _ rfl) rfl ?_ (Nat.zero_le _) (by show (#[] ++ vs.toArray).size ≤ sizeLine + 1; simp only [Array.size_append, List.size_toArray, List.length_nil]; omega))
  refine wpAny_pure ?_
  show wpAny (model prog w) A (do
      let o ← load s.heap.objs.size
      match o.data with
      | .seq xs _ => pure xs.toList
      | _ => unsupported "internal:collect") Q E { s with heap := (s.heap.push (seqObj "list" #[] 0)).update s.heap.objs.size (Obj.mapSeq (· ++ vs.toArray)) }
  refine wpAny_bind (wpAny_load (get?_update_seq (Heap.get?_push_size _ rfl) _) ?_)
  show wpAny _ _ (pure ((#[] : Array Value) ++ vs.toArray).toList) Q E _
  rw [show ((#[] : Array Value) ++ vs.toArray).toList = vs by simp]
  exact wpAny_pure h
theorem sorted_of_sortT {l : Addr} {vs : List Value} {Q : Value → Shared → Prop} (hl : IsTup s.heap l vs.toArray) (hL : vs.length ≤ sizeLine)
    (body : ∀ E' : Value → Shared → Prop, wpAny (model prog w) A.in1.in1 (Builtin.«list.sort» ⟨[.ref (s.heap.objs.size + 1)], []⟩) (fun f s' => f = .done (.ret .none) ∧ Q (.ref (s.heap.objs.size + 1)) s') E' { s with heap := copyHeap s.heap vs }) :
    wpAny (model prog w) A (call (.builtin "sorted") [.ref l]) Q E s := by
  refine call_function_entry_kw kind_sorted plain_sorted entry_sorted (args_sorted1 _) ?_
  unfold Builtin.«sorted»
  refine wpAny_bind (m := checkCount "sorted" 1 1 _) (wpAny_pure ?_)
  refine wpAny_bind (collect_tup hl ?_ hL)
  refine wpAny_bind (wpAny_newList ?_ hL)
  have hsz : ((s.heap.push (seqObj "list" #[] 0)).update s.heap.objs.size (Obj.mapSeq (· ++ vs.toArray))).objs.size = s.heap.objs.size + 1 := by
    rw [Heap.size_update, size_push']
  show wpAny _ _ _ _ _ { s with heap := copyHeap s.heap vs }
  rw [hsz]
  refine wpAny_bind (wpAny_holding (wpAny_call_entry_kw slot_list_sort ⟨_, copyHeap_at s.heap vs, rfl⟩ entry_list_sort ?body (args_list_sort _)))
  case body =>
    show wpAny (model prog w) A.in1.in1 (Builtin.«list.sort» ⟨[.ref (s.heap.objs.size + 1)], []⟩) _ _ _
    refine wpAny_mono (body _) (fun f s' hf => ?_) fun _ _ e => e
    obtain ⟨rfl, hq⟩ := hf
    exact ⟨_, rfl, wpAny_pure ⟨_, rfl, hq⟩⟩
theorem sorted_dataT {β : Type} {l : Addr} {vs : List Value} {bs : List β} {enc : β → PyData} {R : Value → β → Prop} {Q : Value → Shared → Prop} (hl : IsTup s.heap l vs.toArray) (e : EachIs R vs bs) (er : EachIs (fun v b => ∃ as, Reads s.heap v (enc b) as) vs bs) (hal : AllAlike (bs.map enc)) (hk : Sortable (bs.map enc)) (hL : bs.length ≤ sizeLine)
    (hu : ∀ b, b ∈ bs → A.units + 2 + (enc b).depth < cLine) (h : ∀ out, out.length = bs.length → EachIs R out (bs.mergeSort (dataLe false enc)) → Q (.ref (s.heap.objs.size + 1)) { s with heap := sortedAll s.heap vs (List.toArray out) }) :
    wpAny (model prog w) A (call (.builtin "sorted") [.ref l]) Q E s := by
  have er' : EachIs (fun v b => ∃ as, Reads (sortingHeap (copyHeap s.heap vs) (s.heap.objs.size + 1) vs) v (enc b) as) vs bs := er.mono fun _ _ ⟨as, r⟩ => ⟨as, PyProof.Rows.Reads.keeps (fun _ _ => sorting_copy_old) r⟩
  have hL' : vs.length ≤ sizeLine := by rw [e.length]; exact hL
  refine sorted_of_sortT hl hL' fun E' => list_sort_vals (s := { s with heap := copyHeap s.heap vs }) (κ := dataKind (sortingHeap (copyHeap s.heap vs) (s.heap.objs.size + 1) vs) (bs.map enc)) (copyHeap_at s.heap vs)
    (SortsAt.data (s := { s with heap := sortingHeap (copyHeap s.heap vs) (s.heap.objs.size + 1) vs }) (each_map (R := fun v d => ∃ as, Reads (sortingHeap (copyHeap s.heap vs) (s.heap.objs.size + 1) vs) v d as) enc er') hal hk (bound_map hu)) hL' ⟨rfl, ?_⟩
  exact h _ (by rw [sortVals_length false rfl]; exact e.length) (sortVals_data false e er' hal)
end

/-! ### enumerate -/
theorem meets_enumerate_new1 {v : Value} {o : Obj} {H : Heap → Prop} (B : Begins v o H) :
    Meets (Builtin.«enumerate.__new__» ⟨[.type "enumerate", v], []⟩) (fun _ R s => H s.heap ∧
      R (.ok (.ret (.ref (s.heap.push o).objs.size))) { s with heap := (s.heap.push o).push { cls := .type "enumerate", data := .fields #[.none, .bool false, .ref s.heap.objs.size, rawInt 0, .none, .none] } }) :=
  .of_wp fun prog w A R s h => by
    obtain ⟨hp, g, d, tk, os⟩ := s; obtain ⟨h1, h⟩ := h
    have hsub := sub_enumerate
    have q1 : ∀ {A' : Around} {E : Value → Shared → Prop} {Q : Value → Shared → Prop}, Q (.ref hp.objs.size) ⟨hp.push o, g, d, tk, os⟩ → wpAny (model prog w) A' (pyIter v) Q E ⟨hp, g, d, tk, os⟩ :=
      fun q => B.iter prog w _ _ ⟨hp, g, d, tk, os⟩ _ h1 q
    wp_walk using q1
    refine wpAny_stack_any fun st => wpAny_pure ?_
    split
    · rename_i c _ _ _ _ _
      cases (c == Value.type "enumerate")
      · wp_walk using q1
        exact ⟨_, rfl, h⟩
      · wp_walk using q1
        exact ⟨_, rfl, h⟩
    · wp_walk using q1
      exact ⟨_, rfl, h⟩
theorem enum_begins1 {prog : Program} {w : World} {A : Around} {E : Value → Shared → Prop} {s : Shared} {v : Value} {o : Obj} {H : Heap → Prop} {Q : Value → Shared → Prop} (B : Begins v o H) (h1 : H s.heap)
    (h : ∀ h', IsEnum h' (s.heap.objs.size + 1) s.heap.objs.size 0 .none → h'.get? s.heap.objs.size = some o → h'.objs.size = s.heap.objs.size + 2 →
      (∀ b o, s.heap.get? b = some o → h'.get? b = some o) → Q (.ref (s.heap.objs.size + 1)) { s with heap := h' }) :
    wpAny (model prog w) A (call (.type "enumerate") [v]) Q E s := by
  refine callType_new F.called_enumerate (by decide) (F.typeCall_enumerate_1 _) (F.newCall_enumerate_1 _) (fun obj => F.args_object_init_2 obj _) F.entry_enumerate_new
    (meets_enumerate_new1 B) ⟨h1, ?_⟩
  have hz : (s.heap.push o).objs.size = s.heap.objs.size + 1 := Heap.size_push ..
  show _ ∧ _
  rw [hz]
  have he : IsEnum ((s.heap.push o).push { cls := .type "enumerate", data := .fields #[.none, .bool false, .ref s.heap.objs.size, rawInt 0, .none, .none] }) (s.heap.objs.size + 1) s.heap.objs.size 0 .none := by
    have := Heap.get?_push_size (s.heap.push o) (o := { cls := .type "enumerate", data := .fields #[.none, .bool false, .ref s.heap.objs.size, rawInt 0, .none, .none] }) rfl
    rw [hz] at this; exact this
  refine ⟨⟨_, he, rfl⟩, h _ he (Heap.get?_push_of_some _ (Heap.get?_push_size _ B.free)) (by rw [Heap.size_push, hz]) fun b o x => Heap.get?_push_of_some _ (Heap.get?_push_of_some _ x)⟩

/-- a list (true) or a tuple (false) -/
def SqB (K : PySem.W.Frag) : Bool → Hp → Addr → List V → Prop
  | true => SqL K
  | false => SqT K
def ObB : Bool → Heap → Addr → Array Value → Prop
  | true => fun h a xs => h.IsList a xs
  | false => fun h a xs => h.IsTuple a xs
def IterB : Bool → Heap → Addr → Addr → Nat → Prop
  | true => fun h it a i => h.IsListIter it a i
  | false => fun h it a i => h.IsTupleIter it a i
theorem iterB_obj {k : Bool} {h : Heap} {it a : Addr} {i : Nat} (x : IterB k h it a i) : ∃ o, h.get? it = some o ∧ ∀ v, o.data ≠ .cell v := by
  cases k with
  | true => obtain ⟨o, ho, _, hd⟩ := x; exact ⟨o, ho, fun v q => by rw [hd] at q; cases q⟩
  | false => obtain ⟨o, ho, _, hd⟩ := x; exact ⟨o, ho, fun v q => by rw [hd] at q; cases q⟩
theorem obB_lt {k : Bool} {h : Heap} {a : Addr} {xs : Array Value} (x : ObB k h a xs) : a < h.objs.size := by
  cases k with
  | true => obtain ⟨o, ho, _⟩ := x; exact Heap.lt_size ho
  | false => obtain ⟨o, ho, _⟩ := x; exact Heap.lt_size ho
theorem iterB_at {k : Bool} {h h' : Heap} {it a : Addr} {i : Nat} (x : IterB k h it a i) (e : ∀ o, h.get? it = some o → h'.get? it = some o) : IterB k h' it a i := by
  cases k with
  | true => exact Heap.IsListIter.at x e
  | false => exact Heap.IsTupleIter.at x e
section
variable {X : Cx} {pins : List (Addr × Obj)} {σ : L2.St} {H : Hp} {s : Shared}
/-- what stands there -/
theorem sqB_at (I : Inv X pins σ H s) {k : Bool} {a : Addr} {xs : List V} (h : SqB X.K k H a xs) : ∃ its : List Value, Vals xs its ∧ ObB k s.heap a its.toArray ∧ its.length ≤ sizeLine := by
  cases k with
  | true => obtain ⟨its, rv, p, hz⟩ := I.list h; exact ⟨its, rv, p.isList, by rw [← rv.length]; exact hz⟩
  | false => obtain ⟨its, rv, p, hz⟩ := I.tuple h; exact ⟨its, rv, p, by rw [← rv.length]; exact hz⟩
theorem sqB_inj (I : Inv X pins σ H s) {k : Bool} {a : Addr} {xs ys : List V} (h : SqB X.K k H a xs) (h' : SqB X.K k H a ys) : xs = ys := by
  cases k with
  | true => exact I.list_inj h h'
  | false => exact I.tuple_inj h h'
theorem drawsB {A : Around} {P : Program} {w : World} (hh : A.handled = none) (k : Bool) (it a : Addr) (hne : a ≠ it) (items : Array Value) :
    Draws P w A it [it, a] items.size (fun i v => items[i]? = some v) (fun i h => IterB k h it a i ∧ ObB k h a items) := by
  cases k with
  | true => exact Draws.list hh it a hne items
  | false => exact Draws.tuple hh it a hne items
end
theorem beginsB (k : Bool) (a : Addr) (items : Array Value) : ∃ o, Begins (.ref a) o (fun h => ObB k h a items) ∧ ∀ (h : Heap) (it : Addr), h.get? it = some o → IterB k h it a 0 := by
  cases k with
  | true => exact ⟨_, begins_list a items, fun h it e => ⟨_, e, rfl, rfl⟩⟩
  | false => exact ⟨_, begins_tuple a items, fun h it e => ⟨_, e, rfl, rfl⟩⟩

def IteB (K : PySem.W.Frag) (k : Bool) (a : Addr) : It :=
  ⟨fun i H => ∃ (xs : List V) (x : V), SqB K k H a xs ∧ xs[i]? = some x, fun i H v H' => ∃ T x, v = .ref T ∧ H T = none ∧ H' = upd H T (.tup [.int (i : Nat), x]) ∧ ∀ xs, SqB K k H a xs → xs[i]? = some x, fun i H => ∃ xs : List V, SqB K k H a xs ∧ xs.length = i⟩
theorem turn_enumB {P : Program} {w : World} {K : PySem.W.Frag} {elts : List Expr} {kk : Nat} {tpos : Pos} (k : Bool) (a e it : Addr) (ha : a ≠ it) (hae : a ≠ e) :
    Turn P w K (.Tuple elts kk tpos) (IteB K k a) [e, it] e (fun i h => (∃ old, IsEnum h e it ((i : Nat) : Int) old) ∧ IterB k h it a i ∧ e ≠ it) where
  mem := by simp
  obj := fun i h st b hb => by
    obtain ⟨⟨old, he⟩, hi, _⟩ := st
    have e' : b = e ∨ b = it := by simpa using hb
    rcases e' with z | z
    · rw [z]; exact ⟨_, he, fun v q => nomatch q⟩
    · rw [z]; exact iterB_obj hi
  keep := fun i h h' st k => let ⟨⟨old, he⟩, hi, hne⟩ := st; ⟨⟨old, k e (by simp) _ he⟩, iterB_at hi fun o q => k it (by simp) o q, hne⟩
  item := by
    intro X hP hw hK hc i pins s σ H E I hf st hg
    subst hP hw hK
    obtain ⟨⟨old, he⟩, hit, hne⟩ := st
    obtain ⟨xs, x, hq, hx⟩ := hg
    obtain ⟨its, rv, p, hz⟩ := sqB_at I hq
    obtain ⟨u, hu, ru⟩ := rv.get hx
    have hel : e < s.heap.objs.size := Heap.lt_size he
    have hil : it < s.heap.objs.size := by obtain ⟨_, q, _⟩ := iterB_obj hit; exact Heap.lt_size q
    have hlt : i < its.toArray.size := by
      rw [List.size_toArray]
      exact (List.getElem?_eq_some_iff.mp hu).1
    refine wpAny_pyNext_enum_itemC (drawsB (show X.A.in1.handled = none from I.ok.hd hc) k it a ha its.toArray) he ⟨hit, p⟩ hlt hne (by simp [hne, hae.symm]) fun x' h' tk hP ho hst hT hsz hk => ?_
    have hxu : x' = u := by
      have : its[i]? = some x' := by simpa using hP
      rw [hu] at this; exact (Option.some.inj this).symm
    subst hxu
    obtain ⟨hit', _⟩ := hst
    refine ⟨_, rfl, wpAny_letOwnedTupleGo_enum (s := { s with heap := h', toks := tk + 1 }) ho fun h'' he' sb => ?_⟩
    have hT2 : h''.get? s.heap.objs.size = some { cls := .type "tuple", data := .seq #[.int i tk, x'] } := (sb.2 _ (Nat.ne_of_gt hel)).trans hT
    have new : ObjOk X.prog X.w (upd H s.heap.objs.size (.tup [.int (i : Nat), x])) h'' s.heap.objs.size (.tup [.int (i : Nat), x]) :=
      ⟨by show 2 ≤ sizeLine; decide, [.int i tk, x'], .cons ⟨_, rfl⟩ (.cons ru .nil), ⟨_, hT2, rfl, _, rfl⟩⟩
    have I1 : Inv X pins σ (upd H s.heap.objs.size (.tup [.int (i : Nat), x])) { s with heap := h'', toks := tk + 1 } :=
      I.turnedNew (ch := [e, it]) (fun b ob hb q => (sb.2 b (fun z => hb (by simp [z]))).trans (hk b ob (fun z => hb (by simp [z])) (fun z => hb (by simp [z])) q)) hf (Nat.le_refl _) new
    refine ⟨.ref s.heap.objs.size, _, I1, rfl, ⟨_, x, rfl, I.hok.fresh (Nat.le_refl _), rfl, fun ys hy => by rw [sqB_inj I hy hq]; exact hx⟩, ⟨⟨x', ?_⟩, iterB_at hit' fun o q => (sb.2 it (Ne.symm hne)).trans q, hne⟩, fun b hb => ?_⟩
    · have e1 : ((i + 1 : Nat) : Int) = (i : Int) + 1 := by omega
      rw [e1]; exact he'
    · have hb' : b < s.heap.objs.size := by
        have e' : b = e ∨ b = it := by simpa using hb
        rcases e' with z | z
        · rw [z]; exact hel
        · rw [z]; exact hil
      rw [upd_ne (Nat.ne_of_lt hb')]
      exact (hf b hb).1
  done := by
    intro X hP hw hK hc i pins s σ H E I hf st hg
    subst hP hw hK
    obtain ⟨⟨old, he⟩, hit, hne⟩ := st
    obtain ⟨xs, hq, hx⟩ := hg
    obtain ⟨its, rv, p, hz⟩ := sqB_at I hq
    obtain ⟨f0, f1, f2, f3, f4, f5⟩ := hf it (by simp)
    have hl := rv.length
    have hn : its.toArray.size = i := by rw [List.size_toArray]; omega
    subst hn
    exact wpAny_pyNext_enum_endD (drawsB (show X.A.in1.handled = none from I.ok.hd hc) k it a ha its.toArray) he ⟨hit, p⟩ fun h' eb => ⟨rfl, I.turned (t' := s.toks) (fun b o hb q => eb b o hb q) f0 f1 f3 f4 f5⟩
  self := fun A i s Q E st h => let ⟨⟨_, he⟩, _⟩ := st; wpAny_pyIter_enum he h
def iEnumB (K : PySem.W.Frag) (ta : TA) : TI := fun σ H R => ta σ H fun vs H1 => ∃ (k : Bool) (a : Addr) (xs : List V), vs = [.ref a] ∧ SqB K k H1 a xs ∧ R (IteB K k a) H1
theorem pi_enumB {X : Cx} {e : Expr} {ta : TA} {p pos tpos : Pos} {elts : List Expr} {kk : Nat} (hg : Gl X "enumerate") (hm : X.mg "enumerate" = none) (ha : PA X [e] ta) (hs : starEach [e] X.env = [(false, eval e X.env)] := by rfl) :
    PI X (.Tuple elts kk tpos) (.Call (.Name "enumerate" p) [e] [] pos) (iEnumB X.K ta) := by
  refine ⟨fun pins s σ H R I h => ?_⟩
  refine Call_ (ld_blt I hg hm boot_enumerate (PyProof.Rows.callWith_type1 (thn (ha.run pos pins s σ H _ I h) fun us s1 ⟨vs, H1, I1, r1, q1⟩ => ?_) hs rfl))
  obtain ⟨k, a, xs, ex, hq, q⟩ := q1
  subst ex
  cases r1 with
  | cons r rr =>
    cases rr
    cases r
    obtain ⟨its, rv, p', hz⟩ := sqB_at I1 hq
    obtain ⟨o, B, hB⟩ := beginsB k a its.toArray
    have hal : a < s1.heap.objs.size := obB_lt p'
    refine enum_begins1 B p' fun h' he hit hsz hk => wpAny_pyIter_enum he ?_
    have I2 : Inv X pins σ H1 { s1 with heap := h' } := I1.kept (t' := s1.toks) hk
    refine ⟨s1.heap.objs.size + 1, [s1.heap.objs.size + 1, s1.heap.objs.size], _, _, H1, rfl, I2, turn_enumB k a (s1.heap.objs.size + 1) s1.heap.objs.size (Nat.ne_of_lt hal) (Nat.ne_of_lt (Nat.lt_succ_of_lt hal)), ⟨⟨.none, he⟩, hB _ _ hit, Nat.succ_ne_self _⟩, fun b hb => ?_, q⟩
    have e' : b = s1.heap.objs.size + 1 ∨ b = s1.heap.objs.size := by simpa using hb
    have hle : s1.heap.objs.size ≤ b := by
      rcases e' with z | z
      · rw [z]; exact Nat.le_add_right _ _
      · rw [z]; exact Nat.le_refl _
    exact I1.fpOk hle (I1.hok.fresh hle)

/-! ### zip -/
def ItzB (K : PySem.W.Frag) (k k' : Bool) (a b : Addr) : It :=
  ⟨fun i H => ∃ (xs ys : List V) (x y : V), SqB K k H a xs ∧ SqB K k' H b ys ∧ xs[i]? = some x ∧ ys[i]? = some y,
    fun i H v H' => ∃ T x y, v = .ref T ∧ H T = none ∧ H' = upd H T (.tup [x, y]) ∧ (∀ xs, SqB K k H a xs → xs[i]? = some x) ∧ ∀ ys, SqB K k' H b ys → ys[i]? = some y,
    fun i H => ∃ xs ys : List V, SqB K k H a xs ∧ SqB K k' H b ys ∧ i ≤ xs.length ∧ i ≤ ys.length ∧ (i = xs.length ∨ i = ys.length)⟩
theorem turn_zipB {P : Program} {w : World} {K : PySem.W.Frag} {elts : List Expr} {kk : Nat} {tpos : Pos} (k k' : Bool) {a b z TI TO i1 i2 : Addr} (S : ZipSep2 z TI TO i1 i2 [i1, a] [i2, b]) (ha : a ≠ i1) (hb : b ≠ i2) :
    Turn P w K (.Tuple elts kk tpos) (ItzB K k k' a b) [z, TI, TO, i1, i2] z (fun i h => IsZip h z TI TO .none ∧ IsTupOf2 h TI (.ref i1) (.ref i2) ∧ (∃ x y, IsTupOf2 h TO x y) ∧ IterB k h i1 a i ∧ IterB k' h i2 b i) where
  mem := by simp
  obj := fun i h st c hc => by
    obtain ⟨hz, hTI, ⟨x, y, hTO⟩, h1, h2⟩ := st
    have e' : c = z ∨ c = TI ∨ c = TO ∨ c = i1 ∨ c = i2 := by simpa using hc
    rcases e' with q | q | q | q | q
    · rw [q]; exact ⟨_, hz, fun v q => nomatch q⟩
    · rw [q]; exact ⟨_, hTI, fun v q => nomatch q⟩
    · rw [q]; exact ⟨_, hTO, fun v q => nomatch q⟩
    · rw [q]; exact iterB_obj h1
    · rw [q]; exact iterB_obj h2
  keep := fun i h h' st k => by
    obtain ⟨hz, hTI, ⟨x, y, hTO⟩, h1, h2⟩ := st
    exact ⟨k z (by simp) _ hz, k TI (by simp) _ hTI, ⟨x, y, k TO (by simp) _ hTO⟩, iterB_at h1 fun o q => k i1 (by simp) o q, iterB_at h2 fun o q => k i2 (by simp) o q⟩
  item := by
    intro X hP hw hK hc i pins s σ H E I hf st hg
    subst hP hw hK
    obtain ⟨hz, hTI, ⟨x0, y0, hTO⟩, h1, h2⟩ := st
    obtain ⟨xs, ys, x, y, hqx, hqy, hx, hy⟩ := hg
    obtain ⟨its, rv, p, _⟩ := sqB_at I hqx
    obtain ⟨its2, rv2, p2, _⟩ := sqB_at I hqy
    obtain ⟨u, hu, ru⟩ := rv.get hx
    obtain ⟨u2, hu2, ru2⟩ := rv2.get hy
    have hzl : z < s.heap.objs.size := Heap.lt_size hz
    have hin : X.A.in1.handled = none := I.ok.hd hc
    have hl1 : i < its.toArray.size := by rw [List.size_toArray]; exact (List.getElem?_eq_some_iff.mp hu).1
    have hl2 : i < its2.toArray.size := by rw [List.size_toArray]; exact (List.getElem?_eq_some_iff.mp hu2).1
    refine wpAny_pyNext_zipD2_item S (drawsB hin k i1 a ha its.toArray) (drawsB hin k' i2 b hb its2.toArray) hz hTI hTO ⟨h1, p⟩ ⟨h2, p2⟩ hl1 hl2 fun x1 x2 h' tk e1 e2 z' TO' st1 st2 hT hsz hk => ?_
    have ex1 : x1 = u := by
      have : its[i]? = some x1 := by simpa using e1
      rw [hu] at this; exact (Option.some.inj this).symm
    have ex2 : x2 = u2 := by
      have : its2[i]? = some x2 := by simpa using e2
      rw [hu2] at this; exact (Option.some.inj this).symm
    subst ex1 ex2
    obtain ⟨h1', _⟩ := st1
    obtain ⟨h2', _⟩ := st2
    refine ⟨_, rfl, wpAny_letOwnedTupleGo_zip (s := { s with heap := h', toks := tk }) z' fun h'' z'' sb => ?_⟩
    have hT2 : h''.get? s.heap.objs.size = some { cls := .type "tuple", data := .seq #[x1, x2] } := (sb.2 _ (Nat.ne_of_gt hzl)).trans hT
    have new : ObjOk X.prog X.w (upd H s.heap.objs.size (.tup [x, y])) h'' s.heap.objs.size (.tup [x, y]) :=
      ⟨by show 2 ≤ sizeLine; decide, [x1, x2], .cons ru (.cons ru2 .nil), ⟨_, hT2, rfl, _, rfl⟩⟩
    have I1 : Inv X pins σ (upd H s.heap.objs.size (.tup [x, y])) { s with heap := h'', toks := tk } :=
      I.turnedNew (t' := tk) (ch := [z, TI, TO, i1, i2]) (fun c o hb q => (sb.2 c (fun q' => hb (by simp [q']))).trans (hk c o (fun q' => hb (by simp [q'])) (fun q' => hb (by simp [q'])) (fun q' => hb (by simp [q'])) (fun q' => hb (by simp [q'])) q)) hf (Nat.le_refl _) new
    refine ⟨.ref s.heap.objs.size, _, I1, rfl, ⟨_, x, y, rfl, I.hok.fresh (Nat.le_refl _), rfl, fun l hl => by rw [sqB_inj I hl hqx]; exact hx, fun l hl => by rw [sqB_inj I hl hqy]; exact hy⟩, ⟨z'', ?_, ⟨x1, x2, ?_⟩, ?_, ?_⟩, fun c hcm => ?_⟩
    · exact (sb.2 _ S.TIz).trans (hk _ _ S.TIz S.TITO S.TIi1 S.TIi2 hTI)
    · exact (sb.2 _ S.TOz).trans TO'
    · exact iterB_at h1' fun o q => (sb.2 _ S.zi1.symm).trans q
    · exact iterB_at h2' fun o q => (sb.2 _ S.zi2.symm).trans q
    · have hlt : c < s.heap.objs.size := by
        have e' : c = z ∨ c = TI ∨ c = TO ∨ c = i1 ∨ c = i2 := by simpa using hcm
        rcases e' with q | q | q | q | q
        · rw [q]; exact hzl
        · rw [q]; exact Heap.lt_size hTI
        · rw [q]; exact Heap.lt_size hTO
        · rw [q]; obtain ⟨_, e1, _⟩ := iterB_obj h1; exact Heap.lt_size e1
        · rw [q]; obtain ⟨_, e2, _⟩ := iterB_obj h2; exact Heap.lt_size e2
      rw [upd_ne (Nat.ne_of_lt hlt)]
      exact (hf c hcm).1
  done := by
    intro X hP hw hK hc i pins s σ H E I hf st hg
    subst hP hw hK
    obtain ⟨hz, hTI, ⟨x0, y0, hTO⟩, h1, h2⟩ := st
    obtain ⟨xs, ys, hqx, hqy, hi1, hi2, hend⟩ := hg
    obtain ⟨its, rv, p, _⟩ := sqB_at I hqx
    obtain ⟨its2, rv2, p2, _⟩ := sqB_at I hqy
    have l1 := rv.length
    have l2 := rv2.length
    have hin : X.A.in1.handled = none := I.ok.hd hc
    have hs1 : its.toArray.size = xs.length := by rw [List.size_toArray]; omega
    have hs2 : its2.toArray.size = ys.length := by rw [List.size_toArray]; omega
    exact wpAny_pyNext_zipD2_end S (drawsB hin k i1 a ha its.toArray) (drawsB hin k' i2 b hb its2.toArray) hz hTI hTO ⟨h1, p⟩ ⟨h2, p2⟩ (by omega) (by omega) (by omega) fun h' tk hk => ⟨rfl, I.turnedL (t' := tk) (ch := [z, TI, TO, i1, i2]) (fun c o hb q =>
      hk c o (fun q' => hb (by simp [q'])) (fun q' => hb (by simp [q'])) (fun q' => hb (by simp [q'])) (fun q' => hb (by simp [q'])) q) hf⟩
  self := fun A i s Q E st h => wpAny_pyIter_zip st.1 h
def iZipB (K : PySem.W.Frag) (ta : TA) : TI := fun σ H R => ta σ H fun vs H1 => ∃ (k k' : Bool) (a b : Addr) (xs ys : List V), vs = [.ref a, .ref b] ∧ SqB K k H1 a xs ∧ SqB K k' H1 b ys ∧ R (ItzB K k k' a b) H1
theorem pi_zipB {X : Cx} {e e2 : Expr} {ta : TA} {p pos tpos : Pos} {elts : List Expr} {kk : Nat} (hg : Gl X "zip") (hm : X.mg "zip" = none) (ha : PA X [e, e2] ta)
    (hs : starEach [e, e2] X.env = (false, eval e X.env) :: starEach [e2] X.env := by rfl) (hpl : (backTo pos (starEach [e2] X.env)).any (·.1) = false := by rfl) :
    PI X (.Tuple elts kk tpos) (.Call (.Name "zip" p) [e, e2] [] pos) (iZipB X.K ta) := by
  refine ⟨fun pins s σ H R I h => ?_⟩
  refine Call_ (ld_blt I hg hm PyProof.Rows.boot_zip (PyProof.Rows.callWith_type1 (thn (ha.run pos pins s σ H _ I h) fun us s1 ⟨vs, H1, I1, r1, q1⟩ => ?_) hs hpl))
  obtain ⟨k, k', a, b, xs, ys, ex, hqx, hqy, q⟩ := q1
  subst ex
  cases r1 with
  | cons r rr =>
    cases rr with
    | cons r' rr =>
      cases rr
      cases r
      cases r'
      obtain ⟨its, rv, p1, _⟩ := sqB_at I1 hqx
      obtain ⟨its2, rv2, p2, _⟩ := sqB_at I1 hqy
      obtain ⟨o1, B1, hB1⟩ := beginsB k a its.toArray
      obtain ⟨o2, B2, hB2⟩ := beginsB k' b its2.toArray
      have la := obB_lt p1
      have lb := obB_lt p2
      refine zip_begins2 B1 B2 p1 p2 fun h' hz hTI hTO h1 h2 hsz hk => wpAny_pyIter_zip hz ?_
      have I2 : Inv X pins σ H1 { s1 with heap := h' } := I1.kept (t' := s1.toks) hk
      refine ⟨s1.heap.objs.size + 4, [s1.heap.objs.size + 4, s1.heap.objs.size + 2, s1.heap.objs.size + 3, s1.heap.objs.size, s1.heap.objs.size + 1], _, _, H1, rfl, I2, turn_zipB k k' (zip_sep2 (N := s1.heap.objs.size) (fp1 := [a]) (fp2 := [b]) (by simpa using la) (by simpa using lb)) (Nat.ne_of_lt la) (Nat.ne_of_lt (Nat.lt_succ_of_lt lb)), ⟨hz, hTI, ⟨_, _, hTO⟩, hB1 _ _ h1, hB2 _ _ h2⟩, fun c hcm => ?_, q⟩
      have e' : c = s1.heap.objs.size + 4 ∨ c = s1.heap.objs.size + 2 ∨ c = s1.heap.objs.size + 3 ∨ c = s1.heap.objs.size ∨ c = s1.heap.objs.size + 1 := by simpa using hcm
      have hle : s1.heap.objs.size ≤ c := by
        rcases e' with z | z | z | z | z
        · rw [z]; exact Nat.le_add_right _ _
        · rw [z]; exact Nat.le_add_right _ _
        · rw [z]; exact Nat.le_add_right _ _
        · rw [z]; exact Nat.le_refl _
        · rw [z]; exact Nat.le_add_right _ _
      exact I1.fpOk hle (I1.hok.fresh hle)

/-! ### t[::-1] -/
theorem adjust_rev (n : Nat) : Builtin.Slice.sliceAdjust none none (-1) (n : Int) = ((n : Int) - 1, -1) := by
  unfold Builtin.Slice.sliceAdjust
  simp
theorem places_rev (n : Nat) : Builtin.Slice.slicePlaces ((n : Int) - 1) (-1) (-1) = n := by
  unfold Builtin.Slice.slicePlaces
  have h1 : ¬ ((-1 : Int) > 0) := by omega
  simp only [h1, if_false]
  split
  · have : (- -1 : Int) = 1 := by omega
    rw [this, Int.ediv_one]; omega
  · omega
theorem fm_congr {α β : Type} {f g : α → Option β} : ∀ {l : List α}, (∀ x ∈ l, f x = g x) → l.filterMap f = l.filterMap g
  | [], _ => rfl
  | x :: l, h => by
    have e := h x (List.mem_cons_self ..)
    have r := fm_congr (l := l) fun y m => h y (List.mem_cons_of_mem _ m)
    rw [List.filterMap_cons, List.filterMap_cons, e, r]
theorem pick_rev {α : Type} : ∀ xs : List α, (List.range xs.length).filterMap (fun (m : Nat) => xs[(((xs.length : Nat) : Int) - 1 + (m : Int) * (-1)).toNat]?) = xs.reverse := fun xs => by
  apply List.ext_getElem?
  intro i
  have key : (List.range xs.length).filterMap (fun (m : Nat) => xs[(((xs.length : Nat) : Int) - 1 + (m : Int) * (-1)).toNat]?) = (List.range xs.length).filterMap (fun m => xs.reverse[m]?) := by
    apply fm_congr
    intro m hm
    have hm' := List.mem_range.mp hm
    have e : ((((xs.length : Nat) : Int) - 1 + (m : Int) * (-1)).toNat) = xs.length - 1 - m := by omega
    rw [e, List.getElem?_reverse hm']
  rw [key]
  have := pick_run xs.reverse.toArray 0 xs.length
  rw [List.filterMap_map] at this
  have e2 : ((fun x => xs.reverse.toArray[x]?) ∘ fun x => 0 + x) = fun m => xs.reverse[m]? := by funext m; simp
  rw [e2] at this
  rw [this]
  have e3 : (xs.reverse.toArray.toList.drop 0).take xs.length = xs.reverse := by
    rw [List.drop_zero, List.take_of_length_le (by simp)]
  rw [e3]
section
open HT
variable {prog : Program} {w : World} {A : Around} {E : Value → Shared → Prop} {s : Shared}
theorem sliceApplied_rev {sl : Addr} {n : Nat} {u : Tok} {Q : Int × Int × Nat → Shared → Prop} (hs : s.heap.IsSliceOf sl .none .none (.int (-1) u))
    (h : Q ((n : Int) - 1, -1, n) s) : wpAny (model prog w) A (Builtin.Slice.sliceApplied (.ref sl) (pure (n : Int))) Q E s := by
  obtain ⟨os, hos, hcs, hds⟩ := id hs
  unfold Builtin.Slice.sliceApplied Builtin.Slice.sliceFields
  refine wpAny_bind (wpAny_bind (wpAny_field hos hds (x := .none) rfl (wpAny_bind (wpAny_field hos hds (x := .none) rfl (wpAny_bind (wpAny_field hos hds (x := .int (-1) u) rfl (wpAny_pure ?_)))))))
  refine wpAny_bind (slicePart_int ?_)
  show wpAny _ _ (if ((-1 : Int) == 0) = true then _ else _) _ _ s
  rw [if_neg (by decide)]
  refine wpAny_bind (slicePart_none (wpAny_bind (slicePart_none (wpAny_bind (wpAny_pure ?_)))))
  show wpAny _ _ (match Builtin.Slice.sliceAdjust none none (-1) (n : Int) with | (lo, hi) => pure (lo, (-1 : Int), Builtin.Slice.slicePlaces lo hi (-1))) _ _ s
  rw [adjust_rev]
  show wpAny _ _ (pure ((n : Int) - 1, (-1 : Int), Builtin.Slice.slicePlaces ((n : Int) - 1) (-1) (-1))) _ _ s
  rw [places_rev]
  exact wpAny_pure h
theorem getItem_tuple_rev {t sl : Addr} {items : List Value} {u : Tok} {Q : Value → Shared → Prop} (ht : IsTup s.heap t items.toArray) (hs : s.heap.IsSliceOf sl .none .none (.int (-1) u))
    (h : Q (.ref s.heap.objs.size) { s with heap := s.heap.push { cls := .type "tuple", data := .seq items.reverse.toArray } })
    (hsz : items.length ≤ sizeLine) : wpAny (model prog w) A (getItem (.ref t) (.ref sl)) Q E s := by
  have htake : sizeOk (.seq items.reverse.toArray) := by
    show items.reverse.toArray.size ≤ sizeLine
    rw [List.size_toArray, List.length_reverse]; exact hsz
  obtain ⟨os, hos, hcs, hds⟩ := id hs
  have hTs : s.TypeIs (.ref sl) "slice" := ⟨os, hos, hcs⟩
  unfold getItem
  try with_reducible refine wpAny_holding ?_
  first | refine wpAny_bind (wpAny_pure ?_) | skip
  refine wpAny_bind (wpAny_sequenceKey ht.typeIs (by decide) ?_)
  refine wpAny_bind (wpAny_callSpecial?_slot (name := Str.ofString "__getitem__") ht.typeIs PyProof.Rows.slot_tuple_getitem
    (wpAny_call_entry PyProof.Rows.slot_tuple_getitem ht.typeIs entry_tuple_getitem ?_ (args_tuple_getitem _ _)))
  show wpAny _ _ (Builtin.Tuple.tupleItemsOf (.ref t) >>= _) _ _ s
  refine wpAny_bind (tupleItemsOf_ ht ?_)
  refine wpAny_bind (wpAny_typeOf hTs ?_)
  rw [if_pos (by decide)]
  refine wpAny_bind (sliceApplied_rev hs ?_)
  have hno : ¬ ((((items.toArray.size : Nat) : Int) - 1 == 0 && (-1 : Int) == 1 && items.toArray.size == items.toArray.size) = true) := by
    intro q
    rw [Bool.and_eq_true, Bool.and_eq_true] at q
    exact absurd q.1.2 (by decide)
  show wpAny _ _ (if (((items.toArray.size : Nat) : Int) - 1 == 0 && (-1 : Int) == 1 && items.toArray.size == items.toArray.size) = true then _ else _) _ _ s
  rw [if_neg hno]
  have e : ((List.range items.toArray.size).filterMap fun (m : Nat) => items.toArray[(((items.toArray.size : Nat) : Int) - 1 + (m : Int) * (-1)).toNat]?).toArray = items.reverse.toArray := by
    have := pick_rev items
    simp only [List.getElem?_toArray, List.size_toArray]
    rw [this]
  rw [e]
  first
    | exact wpAny_bind (m := Builtin.Tuple.tupleExact _) (wpAny_newObj_type (wpAny_pure ⟨_, rfl, wpAny_pure h⟩) htake)
    | exact wpAny_bind (m := Builtin.Tuple.tupleExact _) (wpAny_newObj_type (wpAny_bind (wpAny_pure (wpAny_pure ⟨_, rfl, wpAny_pure h⟩))) htake)
    | exact wpAny_bind (wpAny_bind (m := Builtin.Tuple.tupleExact _) (wpAny_newObj_type (wpAny_pure (wpAny_pure ⟨_, rfl, wpAny_pure h⟩)) htake))
    | exact wpAny_bind (wpAny_bind (m := Builtin.Tuple.tupleExact _) (wpAny_newObj_type (wpAny_pure ⟨_, rfl, wpAny_pure h⟩) htake))
end
/-- xs[::-1] -/
def tRev (K : PySem.W.Frag) (te : TE) : TE := fun σ H Q => te σ H fun x H1 => ∃ a xs, x = .ref a ∧ ((SqL K H1 a xs ∧ ∀ p, H1 p = none → Q (.ref p) (upd H1 p (.lst xs.reverse))) ∨ (SqT K H1 a xs ∧ ∀ p, H1 p = none → Q (.ref p) (upd H1 p (.tup xs.reverse))))
theorem vals_reverse {xs : List V} {us : List Value} (r : Vals xs us) : Vals xs.reverse us.reverse := r.reverse
theorem pe_rev {X : Cx} {e : Expr} {te : TE} {k : Nat} {p1 p2 p3 pos : Pos} (he : PE X e te) : PE X (.Subscript e (.Slice none none (some (.UnaryOp .USub (.Constant (.int 1) k p1) p2)) p3) pos) (tRev X.K te) := by
  refine ⟨fun pins s σ H Q I h => ?_⟩
  refine Subscript_ (thn (he.run pins s σ H _ I h) fun v s1 ⟨x, H1, I1, r1, q1⟩ => ?_)
  obtain ⟨a, xs, ex, q⟩ := q1
  subst ex
  cases r1
  have hst : PO X (some (.UnaryOp .USub (.Constant (.int 1) k p1) p2)) (tPart (tUn (rU fun i => .int (-i)) (tC (.int 1)))) := po_some (pe_un un_neg pe_int)
  refine wpAny_Slice (thn (po_none.run pins s1 σ H1 (fun o H2 => o = none ∧ H2 = H1) I1 ⟨rfl, rfl⟩) fun vl s2 ⟨l, H2, I2, pl, el, e2⟩ => ?_)
  subst el e2
  refine thn (po_none.run pins s2 σ H2 (fun o H3 => o = none ∧ H3 = H2) I2 ⟨rfl, rfl⟩) fun vu s3 ⟨u, H3, I3, pu, eu, e3⟩ => ?_
  subst eu e3
  refine thn (hst.run pins s3 σ H3 (fun o H4 => o = some (-1) ∧ H4 = H3) I3 ⟨1, rfl, -1, rfl, rfl, rfl⟩) fun vs s4 ⟨o, H4, I4, ps, eo, e4⟩ => ?_
  subst eo e4
  have I5 : Inv X pins σ H4 { s4 with heap := s4.heap.push { cls := .type "slice", data := .fields #[vl, vu, vs] } } := I4.kept (t' := s4.toks) fun b ob q => Heap.get?_push_of_some _ q
  show wpAny (model X.prog X.w) X.A (subscriptTail e (.Slice none none (some (.UnaryOp .USub (.Constant (.int 1) k p1) p2)) p3) (.ref a) (.ref s4.heap.objs.size)) (EP X pins σ Q) X.xe { s4 with heap := s4.heap.push { cls := .type "slice", data := .fields #[vl, vu, vs] } }
  rcases q with ⟨hx, q⟩ | ⟨hx, q⟩
  · obtain ⟨its, r, ht, hz⟩ := I5.list hx
    have hlen := r.length
    refine tail_any (ops := [.ref a, .ref s4.heap.objs.size]) ht.isList.typeIs (PySem.slot_list_getitem.lookup) ?_ (by with_unfolding_all rfl)
    refine wpAny_getItem_list_slice ht.isList (Heap.IsSliceOf.new _ vl vu vs) pl pu ps (by decide) ?_ (by rw [List.size_toArray]; omega)
    rw [PySem.W.krv_pick]
    refine ⟨.ref _, _, I5.laid (t' := s4.toks) (o := .lst xs.reverse) (fun b ob q => Heap.get?_push_of_some _ q) (Nat.le_refl _) ?_, rfl, q _ (I5.hok.fresh (Nat.le_refl _))⟩
    exact ⟨by rw [List.length_reverse]; exact hz, _, 0, vals_reverse r, Heap.get?_push_size _ rfl⟩
  · obtain ⟨its, r, ht, hz⟩ := I5.tuple hx
    have hlen := r.length
    cases pl
    cases pu
    cases ps with
    | int i u =>
    refine tail_any (ops := [.ref a, .ref s4.heap.objs.size]) ht.typeIs (PyProof.Rows.slot_tuple_getitem.lookup) ?_ (by with_unfolding_all rfl)
    refine getItem_tuple_rev ht (Heap.IsSliceOf.new _ _ _ _) ?_ (by omega)
    refine ⟨.ref _, _, I5.laid (t' := s4.toks) (o := .tup xs.reverse) (fun b ob q => Heap.get?_push_of_some _ q) (Nat.le_refl _) ?_, rfl, q _ (I5.hok.fresh (Nat.le_refl _))⟩
    exact ⟨by rw [List.length_reverse]; exact hz, _, vals_reverse r, ⟨_, Heap.get?_push_size _ rfl, rfl, _, rfl⟩⟩

/-! ### sorted of plain data -/
/-- the items by the order of the data that they are -/
def sortV (xs : List V) (ps : List PyData) : List V := ((xs.zip ps).mergeSort (PySem.W.dataLe false fun p => p.2)).map (·.1)
def rSortD (K : PySem.W.Frag) : List V → Hp → VK → Prop := fun vs H Q => ∃ (k : Bool) (a : Addr) (xs : List V) (ps : List PyData), vs = [.ref a] ∧ SqB K k H a xs ∧ DpAll K H xs ps ∧ PySem.W.AllAlike ps ∧ PySem.W.Sortable ps ∧ xs.length ≤ sizeLine ∧ (∀ p ∈ ps, p.depth ≤ 32) ∧
  ∀ q, H q = none → Q (.ref q) (upd H q (.lst (sortV xs ps)))
theorem dpAll_len {K : PySem.W.Frag} {H : Hp} : ∀ {xs : List V} {ps : List PyData}, DpAll K H xs ps → xs.length = ps.length
  | _, _, .nil => rfl
  | _, _, .cons _ r => congrArg (· + 1) (dpAll_len r)
theorem zip_snd : ∀ {xs : List V} {ps : List PyData}, xs.length = ps.length → (xs.zip ps).map (·.2) = ps
  | [], [], _ => rfl
  | x :: xs, p :: ps, h => by
    have h' : xs.length = ps.length := by simpa using h
    rw [List.zip_cons_cons, List.map_cons, zip_snd h']
theorem each_zip : ∀ {xs : List V} {us : List Value} {ps : List PyData}, Vals xs us → xs.length = ps.length → PySem.W.EachIs (fun (v : Value) (b : V × PyData) => RelV b.1 v) us (xs.zip ps)
  | [], _, [], .nil, _ => .nil
  | x :: xs, _, p :: ps, .cons r rr, h => .cons r (each_zip rr (by simpa using h))
theorem each_out : ∀ {us : List Value} {bs : List (V × PyData)}, PySem.W.EachIs (fun (v : Value) (b : V × PyData) => RelV b.1 v) us bs → Vals (bs.map (·.1)) us
  | _, _, .nil => .nil
  | _, _, .cons r rr => .cons r (each_out rr)
section
variable {X : Cx} {pins : List (Addr × Obj)} {σ : L2.St} {H : Hp} {s : Shared}
theorem each_reads (I : Inv X pins σ H s) : ∀ {xs : List V} {us : List Value} {ps : List PyData}, Vals xs us → DpAll X.K H xs ps → PySem.W.EachIs (fun (v : Value) (b : V × PyData) => ∃ as, Reads s.heap v b.2 as) us (xs.zip ps)
  | _, _, _, .nil, .nil => .nil
  | _, _, _, .cons r rr, .cons h hh => .cons (Dp.reads I _ _ _ h r) (each_reads I rr hh)
theorem cr_sortD (hu : X.A.units + 64 < cLine) : CallR X (.builtin "sorted") (rSortD X.K) := by
  intro pins s σ H vs us Q I r h
  obtain ⟨k, a, xs, ps, rfl, hs, hd, hal, hk, hz, hdep, q⟩ := h
  have hl := dpAll_len hd
  obtain ⟨its, rv, hob, hz'⟩ := sqB_at I hs
  rw [Vals.ref1 r]
  have es := zip_snd hl
  have hb : (xs.zip ps).length ≤ sizeLine := by rw [List.length_zip, hl, Nat.min_self, ← hl]; exact hz
  have hub : ∀ b, b ∈ xs.zip ps → X.A.units + 2 + b.2.depth < cLine := fun b hm => by
    have : b.2 ∈ ps := by rw [← es]; exact List.mem_map_of_mem hm
    have := hdep _ this
    omega
  have fin : ∀ out : List Value, out.length = (xs.zip ps).length → PySem.W.EachIs (fun (v : Value) (b : V × PyData) => RelV b.1 v) out ((xs.zip ps).mergeSort (PySem.W.dataLe false fun p => p.2)) → EP X pins σ Q (.ref (s.heap.objs.size + 1)) { s with heap := sortedAll s.heap its (List.toArray out) } := fun out ho e => by
    obtain ⟨ep, he'⟩ := PyProof.Rows.sortedAll_at s.heap its out.toArray
    have hlen : (sortV xs ps).length ≤ sizeLine := by
      unfold sortV
      rw [List.length_map, List.length_mergeSort]; exact hb
    exact ⟨.ref _, upd H (s.heap.objs.size + 1) (.lst (sortV xs ps)), I.laid (t' := s.toks) (fun _ _ => PyProof.Rows.sortedAll_old) (Nat.le_succ _) ⟨hlen, out, ep, each_out e, he'⟩, rfl, q _ (I.hok.fresh (Nat.le_succ _))⟩
  cases k with
  | true => exact PySem.W.sorted_data hob (each_zip rv hl) (each_reads I rv hd) (by rw [es]; exact hal) (by rw [es]; exact hk) hb hub fin
  | false => exact sorted_dataT hob (each_zip rv hl) (each_reads I rv hd) (by rw [es]; exact hal) (by rw [es]; exact hk) hb hub fin
end
end FwR

/-! Fw, part Q: own exceptions whose __init__ says super().__init__(..) along own classes; several except clauses with names. -/
namespace FwQ
open PySem PySem.Spec PyProof.Rows L2

/-! ### the text of such an __init__ -/
def iA (args : List Arg) : Arguments := { posonlyargs := [], args := args, vararg := none, kwonlyargs := [], kw_defaults := [], kwarg := none, defaults := [] }
def iSup (p0 p1 p2 p3 p4 : Pos) (es : List Expr) : Stmt := .Expr (.Call (.Attribute (.Call (.Name "super" p0) [] [] p1) "__init__" p2) es [] p3) p4
def iSet (f : Str) (p q r t : Pos) : Stmt := .Assign [.Attribute (.Name "self" p) f q] (.Name f r) t
def iS1 (f : Str) : Scope := { kind := .function, names := [(PySem.Str.ofString "self", .local), (f, .local), (PySem.Str.ofString "__class__", .free), (PySem.Str.ofString "super", .globalImplicit)], isGenerator := false, isCoroutine := false, more := [] }
def iS2 (f g : Str) : Scope := { kind := .function, names := [(PySem.Str.ofString "self", .local), (f, .local), (g, .local), (PySem.Str.ofString "__class__", .free), (PySem.Str.ofString "super", .globalImplicit)], isGenerator := false, isCoroutine := false, more := [] }

/-- what the written part says of an exception's class at C and of its __init__ at fI -/
structure ErrC (K : PySem.W.Frag) (prog : Program) (C fI cc cda : Addr) (qual : Str) (params : Arguments) (body : List Stmt) (scope : Scope) : Prop where
  oex : OexC K C
  xf : XfC K C
  iC : PySem.W.findIn K (.ref C) "__init__" = some (some (.ref fI))
  tI : PySem.W.typeIn K (.ref fI) = some (.type "function")
  fn : ∃ (oc : Value) (od : Option Addr) (dV kV doc pm ct : Value) (an : Option Addr) (osl : Array (Option Value)),
    K.lookup fI = some ⟨oc, od, .func (PySem.W.ksFn "__init__" qual params body scope dV kV doc pm an (.ref cda) ct cc), osl⟩ ∧ PySem.W.codeIn K (.ref cda) qual = true ∧ dV = .none
  cell : ∃ (cl : Value) (cld : Option Addr) (csl : Array (Option Value)), K.lookup cc = some ⟨cl, cld, .cell (some (.ref C)), csl⟩
  code : ∃ (ccl : Value) (cdd : Option Addr) (vs : Array Value) (ccs : Array (Option Value)) (file : Str) (tf : Tok), K.lookup cda = some ⟨ccl, cdd, .fields vs, ccs⟩ ∧ vs[2]? = some (.str file tf) ∧ ((prog.main.file : Str) == file) = true
  sup : PySem.W.ks_superIn K C C "__init__" = some (some (.builtin "ValueError.__init__"))
  ve : PySem.W.subIn K (.ref C) (.type "ValueError") = some true
  self : PySem.W.mroIn K C (.ref C) = some true
  ns : PySem.W.nsIn K mainGlobals "super" = some none
  st : PySem.W.nsIn K cStatics "thirdparty.any" = some none
  top : (prog.main.scope.names.lookup ("super" : Str)).isSome = false

section
open PySem.W PySem.Calls PyProof.Rows PySem.HandSPX
variable {prog : Program} {w : World} {A : Around} {E : Value → Shared → Prop} {K : Frag} {mg : Str → Option Value} {base : Heap}

theorem call_mw {h : Heap} {g : Array GenState} {d : Drawn} {t : Nat} {os : OsState} {nm q : Str} {C N : Addr} {bs bm : List Value} {hdct : Bool} {sn : List Str} {sub : List Value} {ab : Bool} {col : Option Bool} {dd : Option Addr} {k0 k1 k2 k3 k5 : Option Value}
    {u e t0 : Addr} {rest : List Value} {Q : Value → Shared → Prop}
    (hC : h.get? C = some (excClassObj nm q C N bs bm hdct sn sub ab col dd k0 k1 k2 k3 k5 "ValueError.__new__")) (he : h.get? e = some (excO C t0)) (hu : h.get? u = some (kxs_mw "ValueError.__init__" e)) (hrest : rest.length ≤ sizeLine)
    (hq : ∀ h' t1, (∀ b o, b ≠ e → h.get? b = some o → h'.get? b = some o) → h'.get? e = some (excO C t1) → Q .none ⟨h', g, d, t, os⟩) :
    wpAny (model prog w) A (call (.ref u) rest) Q E ⟨h, g, d, t, os⟩ := by
  refine wpAny_call (codeAny_of_tree ?_)
  show wpAny _ A.in1 (callAny (.ref u) ⟨rest, []⟩) _ _ _
  simp only [callAny]
  refine wpAny_bind (wpAny_load hu ?_)
  simp only [kxs_mw, show (Value.type "method-wrapper" == Value.type "method" || Value.type "method-wrapper" == Value.type "builtin_function_or_method" || Value.type "method-wrapper" == Value.type "method-wrapper") = true by decide, if_true]
  refine KFB.if_so (by decide) ?_
  refine wpAny_bind (ESX.check_bound F.excBase_ValueError hC he rfl ?_)
  refine wpAny_bind (wpAny_pure (wpAny_pure ?_))
  refine ⟨Code.quiet_builtin _ (by decide +kernel), codeAny_builtin F.excBase_ValueError.initEntry ?_⟩
  rw [Around.under_plainId F.excBase_ValueError.init.plain _]
  wp_walk
  refine hq _ h.objs.size (fun b o hb ho => ?_) ?_
  · rw [Heap.get?_update_other _ _ (Ne.symm hb)]
    exact Heap.get?_push_of_some _ ho
  · rw [Heap.get?_update_self _ (Heap.get?_push_of_some _ he) rfl]
    rfl

/-- super().__init__(..) in the exception's own __init__ -/
theorem sup_init {C fI cc cda L x t0 : Addr} {qual q : Str} {params : Arguments} {body b' : List Stmt} {scope : Scope} (T : ErrC K prog C fI cc cda qual params body scope) (M : Mod K mg base) {s : Shared} (kb : ∀ b o, base.get? b = some o → s.heap.get? b = some o)
    {m : Str → Option Value} {us : List Value} {e : Expr} {es : List Expr} {p0 p1 p2 p3 p4 : Pos} {ar : Arg} {Q : Flow → Shared → Prop}
    (hL : s.heap.Ns L m) (hp : (params.posonlyargs ++ params.args).head? = some ar) (hself : m ar.arg = some (.ref x)) (hx : s.heap.get? x = some (excO C t0)) (hus : us.length ≤ sizeLine)
    (hks : scope.names.lookup ("super" : Str) = some .globalImplicit) (hkc : scope.names.lookup ("__class__" : Str) = some .free) (hka : scope.names.lookup ar.arg = some .local) (hk : scope.kind = .function)
    (hargs : ∀ (s1 : Shared) (Q' : List Value → Shared → Prop), s1.heap.Ns L m → Q' us s1 → wpAny (model prog w) A (spliced (backTo p3 (starEach (e :: es) (ksEnv q scope L fI (.ref cda) cc)))) Q' E s1)
    (hst : starEach (e :: es) (ksEnv q scope L fI (.ref cda) cc) = (false, eval e (ksEnv q scope L fI (.ref cda) cc)) :: starEach es (ksEnv q scope L fI (.ref cda) cc)) (hpl : (backTo p3 (starEach es (ksEnv q scope L fI (.ref cda) cc))).any (·.1) = false)
    (hev : ∃ pl : Sem Bool, eval (.Call (.Attribute (.Call (.Name "super" p0) [] [] p1) "__init__" p2) (e :: es) [] p3) (ksEnv q scope L fI (.ref cda) cc) = (do
      let ov ← attributeBase (.Call (.Name "super" p0) [] [] p1) "__init__" (ksEnv q scope L fI (.ref cda) cc) (eval (.Call (.Name "super" p0) [] [] p1) (ksEnv q scope L fI (.ref cda) cc))
      standAt p2.atName
      let (f, first) ← holding [ov] (getMethod ov "__init__" pl)
      callWith p3 f first (backTo p3 (starEach (e :: es) (ksEnv q scope L fI (.ref cda) cc))) []))
    (hq : ∀ h' tk t1, (∀ b o, b ≠ x → s.heap.get? b = some o → h'.get? b = some o) → h'.get? x = some (excO C t1) → Q .next { s with heap := h', toks := tk }) :
    _root_.PySem.wpAt (model prog w) A (.func b' (ksEnv q scope L fI (.ref cda) cc)) (exec (iSup p0 p1 p2 p3 p4 (e :: es)) (ksEnv q scope L fI (.ref cda) cc)) Q E s := by
  obtain ⟨pl, hev⟩ := hev
  have X : K.In s.heap := M.kin.keeps kb
  obtain ⟨oc, od, dV, kV, doc, pm, ct, an, osl, hf, _, _⟩ := T.fn
  obtain ⟨cl, cld, csl, hcell⟩ := T.cell
  obtain ⟨ccl, cdd, vs, ccs, file, tf, hcode, hvs, hfile⟩ := T.code
  obtain ⟨nm, qn, N, bs, bm, sn, sub, ab, col, dd, k0, k1, k2, k3, k5, hC, hbm⟩ := T.oex.cls
  have hclsin : clsIn K C = some { name := nm, bases := bs, mro := .ref C :: bm, ns := N, qualname := qn, hasDict := true, slotNames := sn, subclasses := sub, abstract := ab, collection := col, hasDel := false } := by unfold clsIn; rw [hC] <;> rfl
  obtain ⟨mb, hb1, hb2⟩ := M.blt
  refine ks_wpAt_Expr_any (ks_wpAt_MethodCall (pl := pl) ?_ hev) (by unfold interactive; simp [hk]) (by rfl)
  refine ks_wpAt_super_base (env := ksEnv q scope L fI (.ref cda) cc) hks hkc (by decide) rfl (X _ _ hf) rfl hp rfl (X _ _ hcode) rfl hvs hfile T.top ?_
  refine ks_loadName_global hk hks (loadGlobal_builtin (env := ksEnv q scope L fI (.ref cda) cc) (M.glob.keeps kb) (mg_none_of M.kin M.glob T.ns) (hb1.keeps kb) ((hb2 _ (by decide)).trans (by decide +kernel)) ⟨rfl, ?_⟩)
  refine wpAny_loadName_free hk hkc rfl ⟨_, X _ _ hcell, rfl⟩ ?_
  refine wpAny_loadName_local hk hka hL hself ?_
  refine ks_wpAny_isType_cls (X _ _ hC) rfl ⟨rfl, ?_⟩
  obtain ⟨hp, g, d, tk, os⟩ := s
  refine ks_wpAny_call_super (X _ _ hC) rfl hx rfl (fun c e => by cases e) (looks_mroIn X T.self) (fun h1 e1 k1 => ?_)
  have X1 := X.keeps k1
  have hx1 := k1 _ _ hx
  have hxC : x ≠ C := fun z => by
    have a := X _ _ hC
    rw [← z] at a
    have b := hx.symm.trans a
    cases b
  have hI : Looks (model prog w) h1 (isInstance (.ref x) (.type "ValueError")) true := (show PySem.W.InstAt h1 x (excO C t0) C none from ⟨hx1, rfl, rfl, trivial⟩).type.andThen (looks_subIn X1 T.ve)
  have hsup := T.sup
  unfold ks_superIn at hsup
  rw [hclsin] at hsup
  refine kxs_getMethod kxs_ValueError e1 (looks_opaque X1 T.st) ?_ rfl X1 hsup hI hxC (by decide) ?_
  · exact fun A Q E s k q => wpAny_bind ((looks_clsIn X1 hclsin) A _ E s k (wpAny_pure q))
  have kk : ∀ b o, hp.get? b = some o → (h1.push (kxs_mw "ValueError.__init__" x)).get? b = some o := fun b o e => Heap.get?_push_of_some _ (k1 b o e)
  have h1s : ∀ {Q' : List Value → Shared → Prop} {s1 : Shared}, s1.heap.Ns L m → Q' us s1 → wpAny (model prog w) A (spliced (backTo p3 ((false, eval e (ksEnv q scope L fI (.ref cda) cc)) :: starEach es (ksEnv q scope L fI (.ref cda) cc)))) Q' E s1 := fun {Q' s1} a b => by
    have := hargs s1 Q' a b
    rw [hst] at this
    exact this
  show wpAny _ _ (callWith p3 (.ref h1.objs.size) [] (backTo p3 (starEach (e :: es) (ksEnv q scope L fI (.ref cda) cc))) []) _ _ _
  rw [hst]
  refine kxs_callWith (i := "ValueError.__init__") (x := x) (by show (false || (backTo p3 (starEach es _)).any (·.1)) = false; rw [hpl]; rfl) (evalArgs_plain (h1s ?_ ⟨?_, ?_⟩))
  · exact hL.keeps kk
  · exact Heap.get?_push_size _ rfl
  · show wpAny _ _ (call (.ref h1.objs.size) ([] ++ us) []) _ _ _
    rw [List.nil_append]
    exact call_mw ((X.keeps kk) _ _ hC) (kk _ _ hx) (Heap.get?_push_size _ rfl) hus fun h' t1 k' e' => hq _ _ t1 (fun b o hb e => k' b o hb (kk b o e)) e'

/-- what __init__ leaves of a fresh exception at x -/
structure InitEnd (h h' : Heap) (x C dx : Addr) (mA : Str → Option Value) : Prop where
  keep : ∀ b o, b ≠ x → h.get? b = some o → h'.get? b = some o
  obj : ∃ t1 : Addr, h'.get? x = some { cls := .ref C, dict := some dx, data := .fields #[.ref t1, .none, .none, .none, .bool false, .none] }
  dbig : h.objs.size ≤ dx
  dne : dx ≠ x
  ns : h'.Ns1 dx mA
theorem ldL {M : Model} {s : Shared} {env : Env} {L : Addr} {m : Str → Option Value} {x : Str} {pos : Pos} {v : Value} {Q : Value → Shared → Prop} {A : Around} {E : Value → Shared → Prop} (he : env.locals = L) (hn : s.heap.Ns L m) (hv : m x = some v) (hk : env.scope.kind = .function) (hl : env.kindOf x = some .local) (h : Q v s)
    (hd : (x == ("__debug__" : Str)) = false) : wpAny M A (eval (.Name x pos) env) Q E s := by
  subst he
  exact wpAny_Name (wpAny_loadName_local hk hl hn hv h) hd
theorem starN (x : Str) (p : Pos) (es : List Expr) (env : Env) : starEach (.Name x p :: es) env = (false, eval (.Name x p) env) :: starEach es env := by rfl
/-- the call super().__init__(es) is a method's call -/
def SupEv (p0 p1 p2 p3 : Pos) (es : List Expr) (qual : Str) (scope : Scope) (fI cda cc : Addr) : Prop := ∀ L : Addr, ∃ pl : Sem Bool, eval (.Call (.Attribute (.Call (.Name "super" p0) [] [] p1) "__init__" p2) es [] p3) (ksEnv qual scope L fI (.ref cda) cc) = (do
      let ov ← attributeBase (.Call (.Name "super" p0) [] [] p1) "__init__" (ksEnv qual scope L fI (.ref cda) cc) (eval (.Call (.Name "super" p0) [] [] p1) (ksEnv qual scope L fI (.ref cda) cc))
      standAt p2.atName
      let (f, first) ← holding [ov] (getMethod ov "__init__" pl)
      callWith p3 f first (backTo p3 (starEach es (ksEnv qual scope L fI (.ref cda) cc))) [])
/-- one field -/
theorem err_init1 {C fI cc cda x t0 : Addr} {qual f : Str} {a1 a2 p0 p1 p2 p3 p4 p5 q1 q2 q3 q4 : Pos}
    (T : ErrC K prog C fI cc cda qual (iA [⟨PySem.Str.ofString "self", none, a1⟩, ⟨f, none, a2⟩]) [iSup p0 p1 p2 p3 p4 [.Name f p5], iSet f q1 q2 q3 q4] (iS1 f)) (M : Mod K mg base) {s : Shared} (kb : ∀ b o, base.get? b = some o → s.heap.get? b = some o)
    {v : Value} {R : Result → Shared → Prop} (hx : s.heap.get? x = some (excO C t0)) (hnx : K.lookup x = none) (hroom : A.depth < recursionLimit) (hlim : s.heap.NoLimit) (hno : findIn K (.ref C) f = some none)
    (hf1 : (f == PySem.Str.ofString "self") = false) (hf2 : (f == PySem.Str.ofString "__class__") = false) (hf3 : (f == PySem.Str.ofString "super") = false) (hf4 : (f == ("__debug__" : Str)) = false)
    (hb : ∀ (kV doc pm ct : Value) (an : Option Addr), bindArgs (ksFn "__init__" qual (iA [⟨PySem.Str.ofString "self", none, a1⟩, ⟨f, none, a2⟩]) [iSup p0 p1 p2 p3 p4 [.Name f p5], iSet f q1 q2 q3 q4] (iS1 f) .none kV doc pm an (.ref cda) ct cc) ⟨[.ref x, v], []⟩ = pure [(PySem.Str.ofString "self", .ref x), (f, v)])
    (hev : SupEv p0 p1 p2 p3 [.Name f p5] qual (iS1 f) fI cda cc)
    (hq : ∀ h' tk dx, InitEnd s.heap h' x C dx (fun y => if y = f then some v else none) → R (.ok (.ret .none)) { s with heap := h', toks := tk }) :
    codeAny (model prog w) A (.call (.ref fI) ⟨[.ref x, v], []⟩) R s := by
  have X : K.In s.heap := M.kin.keeps kb
  obtain ⟨oc, od, dV, kV, doc, pm, ct, an, osl, hf, hcd, hdV⟩ := T.fn
  subst hdV
  obtain ⟨nm, qn, N, bs, bm, sn, sub, ab, col, dd, k0, k1, k2, k3, k5, hC, hbm⟩ := T.oex.cls
  have hcl : clsIn K C = some { name := nm, bases := bs, mro := .ref C :: bm, ns := N, qualname := qn, hasDict := true, slotNames := sn, subclasses := sub, abstract := ab, collection := col, hasDel := false } := by unfold clsIn; rw [hC] <;> rfl
  have hf1' : (PySem.Str.ofString "self" == f) = false := by rw [← hf1]; exact Bool.beq_comm
  have kS : (iS1 f).names.lookup (PySem.Str.ofString "self") = some .local := by simp [iS1, List.lookup]
  have kF : (iS1 f).names.lookup f = some .local := by simp [iS1, List.lookup, hf1]
  have kC : (iS1 f).names.lookup ("__class__" : Str) = some .free := by
    have : (PySem.Str.ofString "__class__" == f) = false := by rw [← hf2]; exact Bool.beq_comm
    have e : (PySem.Str.ofString "__class__" == PySem.Str.ofString "self") = false := by decide +kernel
    show ((iS1 f).names).lookup (PySem.Str.ofString "__class__") = _
    simp [iS1, List.lookup, this, e]
  have kU : (iS1 f).names.lookup ("super" : Str) = some .globalImplicit := by
    have : (PySem.Str.ofString "super" == f) = false := by rw [← hf3]; exact Bool.beq_comm
    have e : (PySem.Str.ofString "super" == PySem.Str.ofString "self") = false := by decide +kernel
    have e2 : (PySem.Str.ofString "super" == PySem.Str.ofString "__class__") = false := by decide +kernel
    show ((iS1 f).names).lookup (PySem.Str.ofString "super") = _
    simp [iS1, List.lookup, this, e, e2]
  refine ks_codeAny_call_defAt (fd := ksFn "__init__" qual (iA [⟨PySem.Str.ofString "self", none, a1⟩, ⟨f, none, a2⟩]) [iSup p0 p1 p2 p3 p4 [.Name f p5], iSet f q1 q2 q3 q4] (iS1 f) .none kV doc pm an (.ref cda) ct cc)
    (binds := [(PySem.Str.ofString "self", .ref x), (f, v)]) hroom (X _ _ hf) rfl hlim (codeRec_of X hcd) rfl (BindsTo.of_eq (hb kV doc pm ct an)) ?_ ?_ (fun h₁ hns hk₁ => ?_)
  · intro y hy
    simp only [iS1, List.mem_cons, List.not_mem_nil, or_false] at hy
    rcases hy with rfl | rfl | rfl | rfl <;> exact fun z => by cases z
  · intro y hy
    simp only [List.mem_cons, List.not_mem_nil, or_false] at hy
    rcases hy with rfl | rfl
    · exact kS
    · exact kF
  have hxL : s.heap.objs.size ≠ x := Nat.ne_of_gt (Heap.lt_size hx)
  have mS : ([(PySem.Str.ofString "self", Value.ref x), (f, v)] : List (Str × Value)).reverse.lookup (PySem.Str.ofString "self") = some (.ref x) := by simp [List.lookup, hf1']
  have mF : ([(PySem.Str.ofString "self", Value.ref x), (f, v)] : List (Str × Value)).reverse.lookup f = some v := by simp [List.lookup]
  show _root_.PySem.wpAt _ (A.deeper (ksEnv qual (iS1 f) s.heap.objs.size fI (.ref cda) cc)) (.func _ (ksEnv qual (iS1 f) s.heap.objs.size fI (.ref cda) cc)) (execs _ (ksEnv qual (iS1 f) s.heap.objs.size fI (.ref cda) cc)) _ _ _
  refine ks_wpAt_execs_cons (sup_init T M (s := { s with heap := h₁, toks := s.toks + 2 }) (us := [v]) (fun b o e => hk₁ b o (kb b o e)) hns (ar := ⟨PySem.Str.ofString "self", none, a1⟩) rfl mS (hk₁ _ _ hx) (by rw [sizeLine_eq]; exact (by decide : 1 ≤ 16777216)) kU kC kS rfl
    (fun s1 Q' hn hQ => ?_) rfl rfl (hev _) (fun h₂ tk₂ t1 k₂ hx₂ => ?_))
  · exact spliced_more (ldL rfl hn mF rfl kF (spliced_none hQ) hf4)
  · have kk : ∀ b o, b ≠ x → s.heap.get? b = some o → h₂.get? b = some o := fun b o hb e => k₂ b o hb (hk₁ b o e)
    have hn₂ : h₂.Ns s.heap.objs.size (fun y => ([(PySem.Str.ofString "self", Value.ref x), (f, v)] : List (Str × Value)).reverse.lookup y) := hns.at fun o e => k₂ _ o hxL e
    have X₂ : K.In h₂ := fun a o e => kk a o (fun z => by rw [z, hnx] at e; cases e) (X a o e)
    refine wpAt_of_wpAny ?_
    show wpAny _ _ (execs [iSet f q1 q2 q3 q4] _) _ _ _
    refine wpAny_execs_cons (plainObj_wpAny_Assign_Attribute ?_ (by rfl))
    refine ldL (v := v) rfl hn₂ mF rfl kF ?_ hf4
    refine ldL (v := .ref x) rfl hn₂ mS rfl kS ?_ (by decide)
    refine set_plain X₂ (ox := excO C t1) (od := none) ⟨hx₂, rfl, rfl, trivial⟩ T.oex.sa ?_
    refine exc_osa X₂ hx₂ hcl (show refsVE (.ref C :: bm) = true from hbm) rfl hno (fun h₃ tk₃ dx k₃ dn dne hx₃ hn₃ => ?_)
    show wpAny _ _ (execs _ _) _ _ _
    have z : s.heap.objs.size < h₂.objs.size := hn₂.lt
    exact wpAny_execs_nil (hq h₃ tk₃ dx ⟨fun b o hb e => k₃ b o hb (kk b o hb e), ⟨t1, hx₃⟩, Nat.le_of_lt (Nat.lt_of_lt_of_le z dn), dne, hn₃⟩)
/-- two fields -/
theorem err_init2 {C fI cc cda x t0 : Addr} {qual f f' : Str} {a1 a2 p0 p1 p2 p3 p4 p5 p6 a3 q1 q2 q3 q4 r1 r2 r3 r4 : Pos}
    (T : ErrC K prog C fI cc cda qual (iA [⟨PySem.Str.ofString "self", none, a1⟩, ⟨f, none, a2⟩, ⟨f', none, a3⟩]) [iSup p0 p1 p2 p3 p4 [.Name f p5, .Name f' p6], iSet f q1 q2 q3 q4, iSet f' r1 r2 r3 r4] (iS2 f f')) (M : Mod K mg base) {s : Shared} (kb : ∀ b o, base.get? b = some o → s.heap.get? b = some o)
    {v v' : Value} {R : Result → Shared → Prop} (hx : s.heap.get? x = some (excO C t0)) (hnx : K.lookup x = none) (hroom : A.depth < recursionLimit) (hlim : s.heap.NoLimit) (hno : findIn K (.ref C) f = some none) (hno' : findIn K (.ref C) f' = some none) (hff : (f' == f) = false)
    (hf1 : (f == PySem.Str.ofString "self") = false) (hf2 : (f == PySem.Str.ofString "__class__") = false) (hf3 : (f == PySem.Str.ofString "super") = false) (hf4 : (f == ("__debug__" : Str)) = false) (hg1 : (f' == PySem.Str.ofString "self") = false) (hg2 : (f' == PySem.Str.ofString "__class__") = false) (hg3 : (f' == PySem.Str.ofString "super") = false) (hg4 : (f' == ("__debug__" : Str)) = false)
    (hb : ∀ (kV doc pm ct : Value) (an : Option Addr), bindArgs (ksFn "__init__" qual (iA [⟨PySem.Str.ofString "self", none, a1⟩, ⟨f, none, a2⟩, ⟨f', none, a3⟩]) [iSup p0 p1 p2 p3 p4 [.Name f p5, .Name f' p6], iSet f q1 q2 q3 q4, iSet f' r1 r2 r3 r4] (iS2 f f') .none kV doc pm an (.ref cda) ct cc) ⟨[.ref x, v, v'], []⟩ = pure [(PySem.Str.ofString "self", .ref x), (f, v), (f', v')])
    (hev : SupEv p0 p1 p2 p3 [.Name f p5, .Name f' p6] qual (iS2 f f') fI cda cc)
    (hq : ∀ h' tk dx, InitEnd s.heap h' x C dx (fun y => if y = f' then some v' else if y = f then some v else none) → R (.ok (.ret .none)) { s with heap := h', toks := tk }) :
    codeAny (model prog w) A (.call (.ref fI) ⟨[.ref x, v, v'], []⟩) R s := by
  have X : K.In s.heap := M.kin.keeps kb
  obtain ⟨oc, od, dV, kV, doc, pm, ct, an, osl, hf, hcd, hdV⟩ := T.fn
  subst hdV
  obtain ⟨nm, qn, N, bs, bm, sn, sub, ab, col, dd, k0, k1, k2, k3, k5, hC, hbm⟩ := T.oex.cls
  have hcl : clsIn K C = some { name := nm, bases := bs, mro := .ref C :: bm, ns := N, qualname := qn, hasDict := true, slotNames := sn, subclasses := sub, abstract := ab, collection := col, hasDel := false } := by unfold clsIn; rw [hC] <;> rfl
  have hf1' : (PySem.Str.ofString "self" == f) = false := by rw [← hf1]; exact Bool.beq_comm
  have hg1' : (PySem.Str.ofString "self" == f') = false := by rw [← hg1]; exact Bool.beq_comm
  have hff' : (f == f') = false := by rw [← hff]; exact Bool.beq_comm
  have kF' : (iS2 f f').names.lookup f' = some .local := by simp [iS2, List.lookup, hg1, hff]
  have kS : (iS2 f f').names.lookup (PySem.Str.ofString "self") = some .local := by simp [iS2, List.lookup]
  have kF : (iS2 f f').names.lookup f = some .local := by simp [iS2, List.lookup, hf1]
  have kC : (iS2 f f').names.lookup ("__class__" : Str) = some .free := by
    have : (PySem.Str.ofString "__class__" == f) = false := by rw [← hf2]; exact Bool.beq_comm
    have e : (PySem.Str.ofString "__class__" == PySem.Str.ofString "self") = false := by decide +kernel
    have t2 : (PySem.Str.ofString "__class__" == f') = false := by rw [← hg2]; exact Bool.beq_comm
    show ((iS2 f f').names).lookup (PySem.Str.ofString "__class__") = _
    simp [iS2, List.lookup, this, t2, e]
  have kU : (iS2 f f').names.lookup ("super" : Str) = some .globalImplicit := by
    have : (PySem.Str.ofString "super" == f) = false := by rw [← hf3]; exact Bool.beq_comm
    have e : (PySem.Str.ofString "super" == PySem.Str.ofString "self") = false := by decide +kernel
    have e2 : (PySem.Str.ofString "super" == PySem.Str.ofString "__class__") = false := by decide +kernel
    have t2 : (PySem.Str.ofString "super" == f') = false := by rw [← hg3]; exact Bool.beq_comm
    show ((iS2 f f').names).lookup (PySem.Str.ofString "super") = _
    simp [iS2, List.lookup, this, t2, e, e2]
  refine ks_codeAny_call_defAt (fd := ksFn "__init__" qual (iA [⟨PySem.Str.ofString "self", none, a1⟩, ⟨f, none, a2⟩, ⟨f', none, a3⟩]) [iSup p0 p1 p2 p3 p4 [.Name f p5, .Name f' p6], iSet f q1 q2 q3 q4, iSet f' r1 r2 r3 r4] (iS2 f f') .none kV doc pm an (.ref cda) ct cc)
    (binds := [(PySem.Str.ofString "self", .ref x), (f, v), (f', v')]) hroom (X _ _ hf) rfl hlim (codeRec_of X hcd) rfl (BindsTo.of_eq (hb kV doc pm ct an)) ?_ ?_ (fun h₁ hns hk₁ => ?_)
  · intro y hy
    simp only [iS2, List.mem_cons, List.not_mem_nil, or_false] at hy
    rcases hy with rfl | rfl | rfl | rfl | rfl <;> exact fun z => by cases z
  · intro y hy
    simp only [List.mem_cons, List.not_mem_nil, or_false] at hy
    rcases hy with rfl | rfl | rfl
    · exact kS
    · exact kF
    · exact kF'
  have hxL : s.heap.objs.size ≠ x := Nat.ne_of_gt (Heap.lt_size hx)
  have mS : ([(PySem.Str.ofString "self", Value.ref x), (f, v), (f', v')] : List (Str × Value)).reverse.lookup (PySem.Str.ofString "self") = some (.ref x) := by simp [List.lookup, hf1', hg1']
  have mF' : ([(PySem.Str.ofString "self", Value.ref x), (f, v), (f', v')] : List (Str × Value)).reverse.lookup f' = some v' := by simp [List.lookup]
  have mF : ([(PySem.Str.ofString "self", Value.ref x), (f, v), (f', v')] : List (Str × Value)).reverse.lookup f = some v := by simp [List.lookup, hff']
  show _root_.PySem.wpAt _ (A.deeper (ksEnv qual (iS2 f f') s.heap.objs.size fI (.ref cda) cc)) (.func _ (ksEnv qual (iS2 f f') s.heap.objs.size fI (.ref cda) cc)) (execs _ (ksEnv qual (iS2 f f') s.heap.objs.size fI (.ref cda) cc)) _ _ _
  refine ks_wpAt_execs_cons (sup_init T M (s := { s with heap := h₁, toks := s.toks + 3 }) (us := [v, v']) (fun b o e => hk₁ b o (kb b o e)) hns (ar := ⟨PySem.Str.ofString "self", none, a1⟩) rfl mS (hk₁ _ _ hx) (by rw [sizeLine_eq]; exact (by decide : 2 ≤ 16777216)) kU kC kS rfl
    (fun s1 Q' hn hQ => ?_) rfl rfl (hev _) (fun h₂ tk₂ t1 k₂ hx₂ => ?_))
  · exact spliced_more (ldL rfl hn mF rfl kF (spliced_more (ldL rfl hn mF' rfl kF' (spliced_none hQ) hg4)) hf4)
  · have kk : ∀ b o, b ≠ x → s.heap.get? b = some o → h₂.get? b = some o := fun b o hb e => k₂ b o hb (hk₁ b o e)
    have hn₂ : h₂.Ns s.heap.objs.size (fun y => ([(PySem.Str.ofString "self", Value.ref x), (f, v), (f', v')] : List (Str × Value)).reverse.lookup y) := hns.at fun o e => k₂ _ o hxL e
    have X₂ : K.In h₂ := fun a o e => kk a o (fun z => by rw [z, hnx] at e; cases e) (X a o e)
    refine wpAt_of_wpAny ?_
    show wpAny _ _ (execs [iSet f q1 q2 q3 q4, iSet f' r1 r2 r3 r4] _) _ _ _
    refine wpAny_execs_cons (plainObj_wpAny_Assign_Attribute ?_ (by rfl))
    refine ldL (v := v) rfl hn₂ mF rfl kF ?_ hf4
    refine ldL (v := .ref x) rfl hn₂ mS rfl kS ?_ (by decide)
    refine set_plain X₂ (ox := excO C t1) (od := none) ⟨hx₂, rfl, rfl, trivial⟩ T.oex.sa ?_
    refine exc_osa X₂ hx₂ hcl (show refsVE (.ref C :: bm) = true from hbm) rfl hno (fun h₃ tk₃ dx k₃ dn dne hx₃ hn₃ => ?_)
    show wpAny _ _ (execs _ _) _ _ _
    have z : s.heap.objs.size < h₂.objs.size := hn₂.lt
    have hxL3 : s.heap.objs.size ≠ dx := Nat.ne_of_lt (Nat.lt_of_lt_of_le z dn)
    have hn₃' : h₃.Ns s.heap.objs.size (fun y => ([(PySem.Str.ofString "self", Value.ref x), (f, v), (f', v')] : List (Str × Value)).reverse.lookup y) := hn₂.at fun o e => k₃ _ o hxL e
    have X₃ : K.In h₃ := fun a o e => k₃ a o (fun z => by rw [z, hnx] at e; cases e) (X₂ a o e)
    refine wpAny_execs_cons (plainObj_wpAny_Assign_Attribute ?_ (by rfl))
    refine ldL (v := v') rfl hn₃' mF' rfl kF' ?_ hg4
    refine ldL (v := .ref x) rfl hn₃' mS rfl kS ?_ (by decide)
    obtain ⟨oD, _, _, hoD, _, _⟩ := id hn₃
    have hw : Within (fun y => if y = f then some v else none) [f] := fun y hy => by
      by_cases e : y = f
      · subst e; exact List.mem_singleton.mpr rfl
      · simp only [if_neg e] at hy; exact absurd rfl hy
    refine set_plain X₃ (ox := { cls := .ref C, dict := some dx, data := .fields #[.ref t1, .none, .none, .none, .bool false, .none] }) (od := some oD) ⟨hx₃, rfl, rfl, hoD⟩ T.oex.sa ?_
    refine PySem.OEX.osa_old X₃ hx₃ hn₃ hw (by simp) hcl (show refsVE (.ref C :: bm) = true from hbm) rfl hno' (fun h₄ tk₄ k₄ hn₄ => ?_)
    show wpAny _ _ (execs _ _) _ _ _
    exact wpAny_execs_nil (hq h₄ tk₄ dx ⟨fun b o hb e => k₄ b o (fun zz => by
        have hlt : b < s.heap.objs.size := Heap.lt_size e
        rw [zz] at hlt
        exact absurd (Nat.lt_of_lt_of_le (Nat.lt_trans hlt z) dn) (Nat.lt_irrefl _)) (k₃ b o hb (kk b o hb e)), ⟨t1, k₄ _ _ (Ne.symm dne) hx₃⟩, Nat.le_of_lt (Nat.lt_of_lt_of_le z dn), dne, hn₄⟩)

theorem lookup_cons' {β : Type} (f g : Str) (y : β) (fs : List (Str × β)) : ((f, y) :: fs).lookup g = if g = f then some y else fs.lookup g := by
  by_cases h : g = f
  · subst h
    simp [List.lookup]
  · have e : (g == f) = false := by simpa using h
    rw [if_neg h]
    simp [List.lookup, e]
/-- an exception's class, made: the fields fs, in that sequence -/
structure ErrOk (prog : Program) (w : World) (K : Frag) (mg : Str → Option Value) (base : Heap) (c : Str) (C : Addr) (fs : List Str) : Prop where
  gC : mg c = some (.ref C)
  oex : OexC K C
  xf : XfC K C
  no : ∀ f ∈ fs, findIn K (.ref C) f = some none
  len : fs.length ≤ 1000
  init : ∃ fI : Addr, findIn K (.ref C) "__init__" = some (some (.ref fI)) ∧ typeIn K (.ref fI) = some (.type "function") ∧
    ∀ (A : Around) (s : Shared) (x t0 : Addr) (us : List Value) (R : Result → Shared → Prop), Mod K mg base → (∀ b o, base.get? b = some o → s.heap.get? b = some o) → s.heap.get? x = some (excO C t0) → K.lookup x = none → A.depth < recursionLimit → s.heap.NoLimit → us.length = fs.length →
      (∀ h' tk dx, InitEnd s.heap h' x C dx (fun y => ((fs.zip us).reverse).lookup y) → R (.ok (.ret .none)) { s with heap := h', toks := tk }) → codeAny (model prog w) A (.call (.ref fI) ⟨.ref x :: us, []⟩) R s
theorem errOk1 {c : Str} {C fI cc cda : Addr} {qual f : Str} {a1 a2 p0 p1 p2 p3 p4 p5 q1 q2 q3 q4 : Pos}
    (T : ErrC K prog C fI cc cda qual (iA [⟨PySem.Str.ofString "self", none, a1⟩, ⟨f, none, a2⟩]) [iSup p0 p1 p2 p3 p4 [.Name f p5], iSet f q1 q2 q3 q4] (iS1 f)) (gC : mg c = some (.ref C)) (hno : findIn K (.ref C) f = some none)
    (hf1 : (f == PySem.Str.ofString "self") = false) (hf2 : (f == PySem.Str.ofString "__class__") = false) (hf3 : (f == PySem.Str.ofString "super") = false) (hf4 : (f == ("__debug__" : Str)) = false)
    (hb : ∀ (v x : Value) (kV doc pm ct : Value) (an : Option Addr), bindArgs (ksFn "__init__" qual (iA [⟨PySem.Str.ofString "self", none, a1⟩, ⟨f, none, a2⟩]) [iSup p0 p1 p2 p3 p4 [.Name f p5], iSet f q1 q2 q3 q4] (iS1 f) .none kV doc pm an (.ref cda) ct cc) ⟨[x, v], []⟩ = pure [(PySem.Str.ofString "self", x), (f, v)])
    (hev : SupEv p0 p1 p2 p3 [.Name f p5] qual (iS1 f) fI cda cc) : ErrOk prog w K mg base c C [f] where
  gC := gC
  oex := T.oex
  xf := T.xf
  no := fun g hg => by rw [List.mem_singleton.mp hg]; exact hno
  len := by simp
  init := ⟨fI, T.iC, T.tI, fun A s x t0 us R M kb hx hnx hroom hlim hl hq => by
    match us, hl with
    | [v], _ =>
      refine err_init1 (w := w) T M kb hx hnx hroom hlim hno hf1 hf2 hf3 hf4 (hb v _) hev fun h' tk dx e => hq h' tk dx ⟨e.keep, e.obj, e.dbig, e.dne, ?_⟩
      have z : (fun y => (([f].zip [v]).reverse).lookup y) = fun y => if y = f then some v else none := by
        funext y
        show [(f, v)].lookup y = _
        rw [lookup_cons']; rfl
      rw [z]; exact e.ns⟩
theorem errOk2 {c : Str} {C fI cc cda : Addr} {qual f f' : Str} {a1 a2 a3 p0 p1 p2 p3 p4 p5 p6 q1 q2 q3 q4 r1 r2 r3 r4 : Pos}
    (T : ErrC K prog C fI cc cda qual (iA [⟨PySem.Str.ofString "self", none, a1⟩, ⟨f, none, a2⟩, ⟨f', none, a3⟩]) [iSup p0 p1 p2 p3 p4 [.Name f p5, .Name f' p6], iSet f q1 q2 q3 q4, iSet f' r1 r2 r3 r4] (iS2 f f')) (gC : mg c = some (.ref C)) (hno : findIn K (.ref C) f = some none) (hno' : findIn K (.ref C) f' = some none) (hff : (f' == f) = false)
    (hf1 : (f == PySem.Str.ofString "self") = false) (hf2 : (f == PySem.Str.ofString "__class__") = false) (hf3 : (f == PySem.Str.ofString "super") = false) (hf4 : (f == ("__debug__" : Str)) = false)
    (hg1 : (f' == PySem.Str.ofString "self") = false) (hg2 : (f' == PySem.Str.ofString "__class__") = false) (hg3 : (f' == PySem.Str.ofString "super") = false) (hg4 : (f' == ("__debug__" : Str)) = false)
    (hb : ∀ (v v' x : Value) (kV doc pm ct : Value) (an : Option Addr), bindArgs (ksFn "__init__" qual (iA [⟨PySem.Str.ofString "self", none, a1⟩, ⟨f, none, a2⟩, ⟨f', none, a3⟩]) [iSup p0 p1 p2 p3 p4 [.Name f p5, .Name f' p6], iSet f q1 q2 q3 q4, iSet f' r1 r2 r3 r4] (iS2 f f') .none kV doc pm an (.ref cda) ct cc) ⟨[x, v, v'], []⟩ = pure [(PySem.Str.ofString "self", x), (f, v), (f', v')])
    (hev : SupEv p0 p1 p2 p3 [.Name f p5, .Name f' p6] qual (iS2 f f') fI cda cc) : ErrOk prog w K mg base c C [f, f'] where
  gC := gC
  oex := T.oex
  xf := T.xf
  no := fun g hg => by
    rcases List.mem_cons.mp hg with rfl | hg
    · exact hno
    · rw [List.mem_singleton.mp hg]; exact hno'
  len := by simp
  init := ⟨fI, T.iC, T.tI, fun A s x t0 us R M kb hx hnx hroom hlim hl hq => by
    match us, hl with
    | [v, v'], _ =>
      refine err_init2 (w := w) T M kb hx hnx hroom hlim hno hno' hff hf1 hf2 hf3 hf4 hg1 hg2 hg3 hg4 (hb v v' _) hev fun h' tk dx e => hq h' tk dx ⟨e.keep, e.obj, e.dbig, e.dne, ?_⟩
      have z : (fun y => (([f, f'].zip [v, v']).reverse).lookup y) = fun y => if y = f' then some v' else if y = f then some v else none := by
        funext y
        show [(f', v'), (f, v)].lookup y = _
        rw [lookup_cons', lookup_cons']; rfl
      rw [z]; exact e.ns⟩
theorem kept_but {h h' : Heap} {x : Addr} (X : K.In h) (hx : K.lookup x = none) (k : ∀ b o, b ≠ x → h.get? b = some o → h'.get? b = some o) : K.In h' := fun a o e =>
  k a o (fun z => by rw [z, hx] at e; cases e) (X a o e)
/-- C(..) made -/
structure OwnMade (h h' : Heap) (e C d : Addr) (mA : Str → Option Value) : Prop where
  keep : ∀ b o, h.get? b = some o → h'.get? b = some o
  new : h.objs.size ≤ e
  obj : ∃ oe vs, h'.get? e = some oe ∧ oe.cls = .ref C ∧ oe.dict = some d ∧ oe.data = .fields vs ∧ vs[1]? = some .none
  dbig : h.objs.size ≤ d
  dne : d ≠ e
  ns : h'.Ns1 d mA
theorem err_made {c : Str} {C : Addr} {fs : List Str} (T : ErrOk prog w K mg base c C fs) (M : Mod K mg base) {s : Shared} (kb : ∀ b o, base.get? b = some o → s.heap.get? b = some o) {us : List Value} (hl : us.length = fs.length) (hlim : s.heap.NoLimit) (hroom : A.depth + 1 < recursionLimit) {R : Result → Shared → Prop}
    (hq : ∀ h' tk e d, OwnMade s.heap h' e C d (fun y => ((fs.zip us).reverse).lookup y) → R (.ok (.ret (.ref e))) { s with heap := h', toks := tk }) :
    codeAny (model prog w) A (.call (.ref C) ⟨us, []⟩) R s := by
  obtain ⟨nm, q, N, bs, bm, sn, sub, ab, col, dd, k0, k1, k2, k3, k5, hC, hbm⟩ := T.oex.cls
  obtain ⟨fI, iC, tI, hrun⟩ := T.init
  have X : K.In s.heap := M.kin.keeps kb
  obtain ⟨hp, g, dr, tk, os⟩ := s
  have k : ∀ b o, hp.get? b = some o → ((hp.push (kdv_tup us)).push (excO C hp.objs.size)).get? b = some o := fun b o e => Heap.get?_push_of_some _ (Heap.get?_push_of_some _ e)
  have hget : ((hp.push (kdv_tup us)).push (excO C hp.objs.size)).get? (hp.objs.size + 1) = some (excO C hp.objs.size) := by heap_get
  have hnx : K.lookup (hp.objs.size + 1) = none := by
    cases e : K.lookup (hp.objs.size + 1) with
    | none => rfl
    | some o =>
      have z : hp.get? (hp.objs.size + 1) = some o := X _ _ e
      exact absurd (Nat.lt_of_succ_lt (Heap.lt_size z)) (Nat.lt_irrefl _)
  refine call_own F.excBase_ValueError (fun X => refsVE_contains X bm hbm) (X _ _ hC) (looks_findIn X iC) (fun self => bind_fn X self tI) (by rw [hl, sizeLine_eq]; have := T.len; omega) ?_
  refine hrun _ ⟨(hp.push (kdv_tup us)).push (excO C hp.objs.size), g, dr, tk, os⟩ _ _ us _ M (fun b o e => k b o (kb b o e)) hget hnx ?_ (hlim.keeps k) hl fun h' tk' dx ⟨k', ⟨t1, hx⟩, dn, dne, hns⟩ => ?_
  · show A.depth + 1 < recursionLimit
    exact hroom
  · have old : ∀ b o, hp.get? b = some o → h'.get? b = some o := fun b o e => k' b o (Nat.ne_of_lt (Nat.lt_succ_of_lt (Heap.lt_size e))) (k b o e)
    have z : hp.objs.size + 1 + 1 ≤ dx := by
      first
        | (simpa only [Heap.size_push] using dn)
        | exact dn
        | (have q := dn; rw [Heap.size_push, Heap.size_push] at q; exact q)
    exact ⟨rfl, hq h' tk' (hp.objs.size + 1) dx ⟨old, Nat.le_succ _, ⟨_, _, hx, rfl, rfl, rfl, rfl⟩, Nat.le_trans (Nat.le_trans (Nat.le_succ _) (Nat.le_succ _)) z, dne, hns⟩⟩
end

theorem relO_zip : ∀ {fs : List Str} {vs : List V} {us : List Value}, Vals vs us → ∀ f, RelO (((fs.zip vs)).lookup f) (((fs.zip us)).lookup f)
  | [], _, _, _, f => by simp [List.lookup]; trivial
  | _ :: _, _, _, .nil, f => by simp [List.lookup]; trivial
  | g :: fs, _, _, .cons r rr, f => by
    rw [List.zip_cons_cons, List.zip_cons_cons, lookup_cons', lookup_cons']
    by_cases e : f = g
    · rw [if_pos e, if_pos e]; exact r
    · rw [if_neg e, if_neg e]; exact relO_zip rr f
theorem zip_rev {α β : Type} : ∀ {xs : List α} {ys : List β}, xs.length = ys.length → (xs.zip ys).reverse = xs.reverse.zip ys.reverse
  | [], [], _ => rfl
  | x :: xs, y :: ys, h => by
    have h' : xs.length = ys.length := by simpa using h
    rw [List.zip_cons_cons, List.reverse_cons, List.reverse_cons, List.reverse_cons, zip_rev h', List.zip_append (by simp [h'])]
    rfl
section
variable {X : Cx} {C : Addr} {c : Str} {fs : List Str}
/-- C(e, ..), an exception -/
def tMkE (C : Addr) (fs : List Str) (ta : TA) : L2.St → Hp → XK → Prop := fun σ H Q => ta σ H fun vs H1 => vs.length = fs.length ∧ ∀ d, H1 d = none → Q (.ref C) (some d) (upd H1 d (.xd (fs.zip vs).reverse))
theorem pmk_err {a : Expr} {es : List Expr} {ta : TA} {p pos : Pos} {k : Nat} (T : ErrOk X.prog X.w X.K X.mg X.base c C fs) (hr : Room k X.A) (ha : PA X (a :: es) ta) (hg : Gl X c) (hdb : (c == ("__debug__" : Str)) = false := by decide)
    (he : starEach (a :: es) X.env = (false, eval a X.env) :: starEach es X.env := by rfl) (hpl : (backTo pos (starEach es X.env)).any (·.1) = false := by rfl) :
    PMk X (.Call (.Name c p) (a :: es) [] pos) (tMkE C fs ta) := by
  intro pins s σ H Q I h
  refine wpAny_Call_Name_kw (ld_glob I hg T.gC ?_ hdb)
  refine PySem.W.callWith_K (h₀ := X.base) I.ok.mod.kin T.oex.kC (thn (ha.run pos pins s σ H _ I h) fun us s1 hh => ?_) he hpl
  obtain ⟨vs, H1, I1, r1, hl, q1⟩ := hh
  refine ⟨I1.kIn, ?_⟩
  show wpAny _ _ (call (.ref C) us) _ _ _
  have hlim := I1.nolimit
  have hul : us.length = fs.length := by rw [← r1.length]; exact hl
  obtain ⟨hp, g, dr, tk, os⟩ := s1
  refine wpAny_call (err_made T I1.mod I1.bk hul hlim (by have := hr.dp; omega) fun h' tk' e d M => ?_)
  show MkP X pins σ Q (.ref e) ⟨h', g, dr, tk', os⟩
  obtain ⟨oe, fv, hoe, hc, hd, hdat, h1⟩ := M.obj
  have hns := M.ns
  obtain ⟨G', g1, g2⟩ := restrict h' fun b => decide (b ≠ e)
  have gk : ∀ b, b ≠ e → G'.get? b = h'.get? b := fun b hb => g1 b (decide_eq_true hb)
  have ge : G'.get? e = none := g2 e (by simp)
  have old : ∀ b o, hp.get? b = some o → G'.get? b = some o := fun b o q => (gk b (Nat.ne_of_lt (Nat.lt_of_lt_of_le (Heap.lt_size q) M.new))).trans (M.keep b o q)
  have ob : ObjOk X.prog X.w (upd H1 d (.xd (fs.zip vs).reverse)) G' d (.xd (fs.zip vs).reverse) :=
    ⟨_, hns.at (fun o q => (gk d M.dne).trans q), fun f => by
      rw [zip_rev hl.symm, zip_rev hul.symm]
      exact relO_zip r1.reverse f⟩
  have J : Inv X pins σ (upd H1 d (.xd (fs.zip vs).reverse)) ⟨G', g, dr, tk', os⟩ := I1.laid (t' := tk') old M.dbig ob
  refine ⟨e, oe, fv, ⟨G', g, dr, tk', os⟩, _, .ref C, some d, rfl, J, fun b o q => ?_, ge, hoe, ⟨hc, hd⟩, hdat, h1, ?_, rfl, I1.bare, raises_own T.oex.exC T.oex.tyC, q1 d (I1.hok.fresh M.dbig)⟩
  · by_cases hb : b = e
    · have q' : G'.get? b = some o := q
      rw [hb, ge] at q'; cases q'
    · exact (gk b hb).symm.trans q
  · rw [upd_ne (Ne.symm M.dne)]
    exact I1.hok.fresh M.new
end

/-! ### several except clauses, with names or without -/
/-- what the clauses wish of an exception of the body, one after the other: the name's slot, if there is one -/
def wMA (K : PySem.W.Frag) (Wout : WX) (D : Ends) : List (Value × Option Nat × (Addr → Value → Option Addr → TS)) → WX
  | [] => Wout
  | (c, o, ts) :: r => fun cls d σ H => ∃ b, PySem.W.exmOne K cls c = some b ∧ (b = true → ∀ a, H a = none → match o with
      | none => ts a cls d D σ H
      | some i => ts a cls d { nx := fun σ' H' => D.nx (σ'.set i none) H', rt := D.rt, bk := fun σ' H' => D.bk (σ'.set i none) H', ct := fun σ' H' => D.ct (σ'.set i none) H' } (σ.set i (some (.ref a))) H) ∧ (b = false → wMA K Wout D r cls d σ H)
inductive HdA (X : Cx) : List ExceptHandler → List (Value × Option Nat × (Addr → Value → Option Addr → TS)) → Prop
  | nil : HdA X [] []
  | cons {x : Str} {c : Value} {ts : Addr → Value → Option Addr → TS} {b₀ : Stmt} {suite : List Stmt} {np pos' : Pos} {hds : List ExceptHandler} {l : List (Value × Option Nat × (Addr → Value → Option Addr → TS))} (hc : Names X x c)
      (hsu : ∀ (a : Addr) (oe : Obj) (cls : Value) (d : Option Addr) (pn : List (Addr × Obj)), Zc cls d oe → (∃ vs, oe.data = .fields vs) → PSs (X.suite a ((a, oe) :: pn)) (b₀ :: suite) (ts a cls d)) (r : HdA X hds l) :
      HdA X (.ExceptHandler (some (.Name x np)) none (b₀ :: suite) pos' :: hds) ((c, none, ts) :: l)
  | as_ {x n : Str} {i : Nat} {c : Value} {ts : Addr → Value → Option Addr → TS} {b₀ : Stmt} {suite : List Stmt} {np pos' : Pos} {hds : List ExceptHandler} {l : List (Value × Option Nat × (Addr → Value → Option Addr → TS))} (hi : X.N[i]? = some n) (hln : X.env.kindOf n = some .local) (hc : Names X x c)
      (hsu : ∀ (a : Addr) (oe : Obj) (cls : Value) (d : Option Addr) (pn : List (Addr × Obj)), Zc cls d oe → (∃ vs, oe.data = .fields vs) → PSs (X.suite a ((a, oe) :: pn)) (b₀ :: suite) (ts a cls d)) (r : HdA X hds l) :
      HdA X (.ExceptHandler (some (.Name x np)) (some n) (b₀ :: suite) pos' :: hds) ((c, some i, ts) :: l)
section
variable {X : Cx} {body : List Stmt} {h₀ : ExceptHandler} {hds : List ExceptHandler} {l : List (Value × Option Nat × (Addr → Value → Option Addr → TS))} {pos : Pos} {tb : WX → TS} {Wout : WX}
theorem ps_try_ma (hs : X.stack = X.env :: X.outer) (hf : X.env.frame = some X.env.locals) (hN : X.N.Nodup) (tk : Takes X Wout)
    (hb : ∀ (W : WX) (pn : List (Addr × Obj)) (xe : Value → Shared → Prop), Takes (X.tr pn xe) W → PassesOwn (model X.prog X.w) X.A X.env xe → PSs (X.tr pn xe) body (tb W))
    (hh : HdA X (h₀ :: hds) l) : PS X (.Try body (h₀ :: hds) [] [] pos) (fun D σ H => tb (wMA X.K Wout D l) D σ H) := by
  refine ⟨fun pins s σ H D I h => ?_⟩
  have ok := I.ok
  have hfr : X.A.frames = some (X.env :: X.outer) := by rw [ok.frames, hs]
  refine wpAny_Try_except ?_
  refine wpAny_mono ((hb (wMA X.K Wout D l) (X.pn ++ pins) (fun e s₁ => wpAny (model X.prog X.w) X.A (noteFrame e X.env) (fun _ s₂ => wpAny (model X.prog X.w) X.A (setFlight e none) (fun _ s₃ =>
    wpAny (model X.prog X.w) X.A (handleBy e X.env (h₀ :: hds)) (SP X pins D) X.xe s₃) X.xe s₂) X.xe s₁) (fun u s' xx => ?_) PassesOwn.looking).run [] s σ H D (I.toTry _) h) (fun f s1 hsp => ?_) (fun e s1 he => he)
  · -- the catch
    obtain ⟨a, B, sI, pins', σ', H', cls, d, rfl, J', nb, up, sky, na, os, ag, w⟩ := xx
    have J : Inv X pins σ' H' sI := J'.ofTry ok
    have sky' : Sky B (X.env :: X.outer) a (Zc cls d) X.env.locals s'.heap := by rw [← hs]; exact sky
    show wpAny (model X.prog X.w) X.A (noteFrame (.ref a) X.env) _ _ _
    refine Sky.land Zc.steady hfr hf sky' fun h3 fl3 up3 => ?_
    have J3 : Inv X pins σ' H' { s' with heap := h3 } := J.landed nb fl3.1 (up.trans up3) os ag
    obtain ⟨oe3, vs3, he3, hz3, hd3⟩ := fl3.there
    have notFr : ∀ {h : Heap} {o : Obj} {vs : Array Value}, h.FunFrames B (X.env :: X.outer) → h.get? a = some o → o.data = .fields vs → a ∉ frs (X.env :: X.outer) := fun {h o vs} ff e dd hm => by
      obtain ⟨_, o', e', hnf⟩ := ff.mem hm
      rw [e] at e'; cases e'
      exact hnf _ dd
    have nfr := notFr fl3.2.2.1 he3 hd3
    have nL : a ≠ X.env.locals := fun z => nfr (List.mem_filterMap.mpr ⟨X.env, List.mem_cons_self, by rw [hf, z]⟩)
    have nF : a ∉ X.fs := fun hm => by
      obtain ⟨e, he, q⟩ := List.mem_filterMap.mp hm
      exact nfr (List.mem_filterMap.mpr ⟨e, List.mem_cons_of_mem _ he, q⟩)
    have S3 := J3.suite he3 hd3 na nL nF
    have testN : ∀ {x : Str} {c : Value} {np : Pos}, Names X x c → ∀ {Q : Value → Shared → Prop} {E : Value → Shared → Prop}, Q c { s' with heap := h3 } → wpAny (model X.prog X.w) (X.A.mark (some (.ref a))) (eval (.Name x np) X.env) Q E { s' with heap := h3 } := fun {x c np} hc {Q E} q => by
      obtain ⟨hg, hdbg, hm | ⟨hm, hv, hnn⟩⟩ := hc
      · exact ld_glob (X := X.suite a ((a, oe3) :: (X.pn ++ pins))) S3 hg hm q hdbg
      · exact ld_blt (X := X.suite a ((a, oe3) :: (X.pn ++ pins))) S3 hg hm hv q hnn hdbg
    have LT : PySem.W.Looks (model X.prog X.w) h3 (typeOf (.ref a)) cls := fun A Q E s k q => wpAny_typeOf_ref (k _ _ he3) (by rw [hz3.1]; exact q)
    have go : ∀ {hds' : List ExceptHandler} {l' : List (Value × Option Nat × (Addr → Value → Option Addr → TS))}, HdA X hds' l' → wMA X.K Wout D l' cls d σ' H' →
        wpAny (model X.prog X.w) X.A (handleBy (.ref a) X.env hds') (SP X pins D) X.xe { s' with heap := h3 } := by
      intro hds' l' hk
      induction hk with
      | nil =>
        intro w
        refine wpAny_handleBy_nil ?_
        obtain ⟨k1, k2, k3, oe, vs, T, oT, ts', he, hz, hd, h1, hr⟩ := id fl3
        unfold PySem.passOn
        refine wpAny_bind (wpAny_field he hd h1 ?_)
        rw [if_neg (show ¬ ((Value.ref T == Value.none) = true) from by simp)]
        have fin : wpAny (model X.prog X.w) X.A (setFlight (.ref a) X.env.frame) (fun _ s4 => wpAny (model X.prog X.w) X.A (throw (.ref a) : Sem Flow) (SP X pins D) X.xe s4) X.xe { s' with heap := h3 } := by
          rw [hf]
          refine HandSPX.setFlight_upZ fl3 fun h4 hh4 up4 => wpAny_throw (tk _ _ ?_)
          exact ⟨a, B, sI, pins, σ', H', cls, d, rfl, J, nb, (up.trans up3).trans up4, .inr (.inr (by rw [hs]; exact hh4)), na, os, ag, w⟩
        first
          | exact wpAny_bind (wpAny_pure (wpAny_bind fin))
          | exact wpAny_bind fin
      | @cons x c ts b₀ suite np pos' hds2 l2 hc hsu r ih =>
        intro w
        obtain ⟨b, hb1, hyes, hno⟩ := w
        refine wpAny_handleBy_cons (codeAny_handlers_test ?_) (by intro q; cases q)
        have LM := PySem.W.exm_one (M := model X.prog X.w) (J3.kIn) LT hb1
        refine testN hc (LM.here ?_)
        cases b with
        | true =>
          refine codeAny_handlers_suite ?_
          refine HandSPX.lands_againZ fl3 fun h4 fl4 up4 => ?_
          have J4 : Inv X pins σ' H' { s' with heap := h4 } := J.landed nb fl4.1 ((up.trans up3).trans up4) os ag
          obtain ⟨oe4, vs4, he4, hz4, hd4⟩ := fl4.there
          have S4 := J4.suite he4 hd4 na nL nF
          refine wpAny_mono ((hsu a oe4 cls d (X.pn ++ pins) hz4 ⟨_, hd4⟩).run [] _ _ H' _ S4 (hyes rfl a na)) (fun f s6 hsp => ?_) (fun _ _ z => False.elim z)
          cases f with
          | next =>
            obtain ⟨σ6, H6, S6, q6⟩ := hsp
            exact ⟨_, _, S6.unsuite ok, q6⟩
          | brk =>
            obtain ⟨σ6, H6, S6, q6⟩ := hsp
            exact ⟨_, _, S6.unsuite ok, q6⟩
          | cont =>
            obtain ⟨σ6, H6, S6, q6⟩ := hsp
            exact ⟨_, _, S6.unsuite ok, q6⟩
          | ret u =>
            obtain ⟨v6, σ6, H6, S6, r6, q6⟩ := hsp
            exact ⟨_, _, _, S6.unsuite ok, r6, q6⟩
        | false =>
          show wpAny _ X.A (handleBy (.ref a) X.env hds2) _ _ _
          exact ih (hno rfl)
      | @as_ x n i c ts b₀ suite np pos' hds2 l2 hi hln hc hsu r ih =>
        intro w
        obtain ⟨b, hb1, hyes, hno⟩ := w
        refine wpAny_handleBy_cons (codeAny_handlers_test ?_) (by intro q; cases q)
        have LM := PySem.W.exm_one (M := model X.prog X.w) (J3.kIn) LT hb1
        refine testN hc (LM.here ?_)
        cases b with
        | true =>
          refine codeAny_handlers_suite_as ?_
          refine HandSPX.lands_againZ fl3 fun h4 fl4 up4 => ?_
          have J4 : Inv X pins σ' H' { s' with heap := h4 } := J.landed nb fl4.1 ((up.trans up3).trans up4) os ag
          obtain ⟨oe4, vs4, he4, hz4, hd4⟩ := fl4.there
          have S4 := J4.suite he4 hd4 na nL nF
          refine store_ok (X := X.suite a ((a, oe4) :: (X.pn ++ pins))) (v := .ref a) S4 hN hi (.inl hln) rfl (fun s5 S5 => ?_) (.inr hln)
          refine wpAny_mono ((hsu a oe4 cls d (X.pn ++ pins) hz4 ⟨_, hd4⟩).run [] s5 _ H' _ S5 (hyes rfl a na)) (fun f s6 hsp => ?_) (fun _ _ z => False.elim z)
          have end_ : ∀ {σ6 : L2.St} {H6 : Hp} {Q : Shared → Prop}, Inv (X.suite a ((a, oe4) :: (X.pn ++ pins))) [] σ6 H6 s6 → (∀ s7, Inv X pins (σ6.set i none) H6 s7 → Q s7) →
              wpAny (model X.prog X.w) X.A (do bindName X.env n .none; unbindBehindTheSuite X.env n pos') (fun _ s7 => Q s7) X.xe s6 := fun {σ6 H6 Q} S6 hq => gone_ok (S6.unsuite ok) hN hi hln hq
          cases f with
          | next =>
            obtain ⟨σ6, H6, S6, q6⟩ := hsp
            exact end_ S6 fun s7 J7 => ⟨_, _, J7, q6⟩
          | brk =>
            obtain ⟨σ6, H6, S6, q6⟩ := hsp
            exact end_ S6 fun s7 J7 => ⟨_, _, J7, q6⟩
          | cont =>
            obtain ⟨σ6, H6, S6, q6⟩ := hsp
            exact end_ S6 fun s7 J7 => ⟨_, _, J7, q6⟩
          | ret u =>
            obtain ⟨v6, σ6, H6, S6, r6, q6⟩ := hsp
            exact end_ S6 fun s7 J7 => ⟨_, _, _, J7, r6, q6⟩
        | false =>
          show wpAny _ X.A (handleBy (.ref a) X.env hds2) _ _ _
          exact ih (hno rfl)
    exact go hh w
  · cases f with
    | next =>
      obtain ⟨σ', H', J', q⟩ := hsp
      exact wpAny_execs_nil ⟨σ', H', J'.ofTry ok, q⟩
    | brk =>
      obtain ⟨σ', H', J', q⟩ := hsp
      exact ⟨σ', H', J'.ofTry ok, q⟩
    | cont =>
      obtain ⟨σ', H', J', q⟩ := hsp
      exact ⟨σ', H', J'.ofTry ok, q⟩
    | ret u =>
      obtain ⟨v, σ', H', J', r, q⟩ := hsp
      exact ⟨v, σ', H', J'.ofTry ok, r, q⟩
end

/-! ### o.m(.., k = v) -/
def tMethK (C : Addr) (m : Str) (sp : Sp) (gV : List V → List V → List V) (E : L2.St → XK) (ta : TE) (t tk : TA) : TE := fun σ H Q => ta σ H fun x H1 => ∃ a dx fs, x = .ref a ∧ H1 a = some (.ins C dx fs) ∧ fs.lookup m = none ∧
  t σ H1 fun vs H2 => tk σ H2 fun zs H3 => sp (gV (x :: vs) zs) H3 Q (E σ)
/-- o.m(..), what it lets out at the slots σ -/
def tMethS (C : Addr) (m : Str) (sp : Sp) (E : L2.St → XK) (ta : TE) (t : TA) : TE := fun σ H Q => ta σ H fun x H1 => ∃ a dx fs, x = .ref a ∧ H1 a = some (.ins C dx fs) ∧ fs.lookup m = none ∧
  t σ H1 fun vs H2 => sp (x :: vs) H2 Q (E σ)
def tCallKS (sp : Sp) (gV : List V → List V → List V) (E : L2.St → XK) (t tk : TA) : TE := fun σ H Q => t σ H fun vs H1 => tk σ H1 fun zs H2 => sp (gV vs zs) H2 Q (E σ)
section
variable {X : Cx} {CX : CXT} {k : Nat} {f C : Addr} {fd : FuncData} {ps ks : List Str} {sp : Sp} {E : L2.St → XK} {x m : Str} {p pos apos : Pos} {e o : Expr} {es : List Expr} {ta : TE} {t tk : TA} {kws : List Keyword} {g : List Value → List Value → List Value} {gV : List V → List V → List V}
theorem run_fnkS {pins : List (Addr × Obj)} {σ : L2.St} {H : Hp} {s : Shared} {Q : VK} {us ws : List Value} {vs zs : List V} (F : FnOk X.prog X.w X.K X.mg X.base CX k f fd ps sp) (hr : Room k X.A) (hb : KBinds X.K fd ps ks g gV) (hx : PassesAt CX X σ (E σ))
    (I : Inv X pins σ H s) (r : Vals vs us) (rz : Vals zs ws) (h : sp (gV vs zs) H Q (E σ)) : wpAny (model X.prog X.w) X.A (call (.ref f) us (ks.zip ws)) (EP X pins σ Q) X.xe s := by
  have r2 := hb.rel r rz
  have hl : (g us ws).length = ps.length := by rw [← r2.length]; exact F.len _ _ _ _ h
  refine wpAny_call (codeAny_mono (F.run X.A X.stack s H ⟨us, ks.zip ws⟩ (g us ws) (gV vs zs) Q (E σ) hr I.env0 (hb.to s us ws I.kIn hl) r2 h) fun r s' hq => ?_)
  cases r with
  | error e => exact hx pins H s e s' I hq
  | ok fl =>
    cases fl with
    | ret u => exact I.after hq
    | next => exact False.elim hq
    | brk => exact False.elim hq
    | cont => exact False.elim hq
theorem pe_methS {pl : Sem Bool} (he : PE X o ta) (c : Cls X.K C) (hm : Meth X.K C m f) (F : FnOk X.prog X.w X.K X.mg X.base CX k f fd ps sp) (hr : Room k X.A) (hb : Binds X.K fd ps []) (hx : ∀ σ, PassesAt CX X σ (E σ)) (ha : PA X (e :: es) t)
    (hst : starEach (e :: es) X.env = (false, eval e X.env) :: starEach es X.env := by rfl) (hpl : (backTo pos (starEach es X.env)).any (·.1) = false := by rfl)
    (ht : eval (.Call (.Attribute o m apos) (e :: es) [] pos) X.env = (do
      let ov ← eval o X.env
      standAt apos.atName
      let (f, first) ← holding [ov] (getMethod ov m pl)
      callWith pos f first (backTo pos (starEach (e :: es) X.env)) (backToKw pos (keywordEach [] X.env))) := by rfl) :
    PE X (.Call (.Attribute o m apos) (e :: es) [] pos) (tMethS C m sp E ta t) := by
  refine ⟨fun pins s σ H Q I h => ?_⟩
  refine PySem.W.methodCall_KW (pl := pl) (thn (he.run pins s σ H _ I h) fun u s1 ⟨x, H1, I1, rx, a, dx, fs, ex, ea, l, q⟩ => ?_) ht
  subst ex
  obtain rfl : u = Value.ref a := rx
  refine getmeth_ok I1 ea c hm l ?_
  refine PySem.W.callWith_K (first := [.ref a]) (h₀ := X.base) I.ok.mod.kin hm.kp (thn (ha.run pos pins s1 σ H1 _ I1 q) fun us s2 ⟨vs, H2, I2, r, q2⟩ => ⟨I2.kIn, ?_⟩) hst hpl
  exact run_fnS (us := .ref a :: us) (vs := .ref a :: vs) F hr hb (hx σ) I2 (.cons rfl r) q2
theorem pe_methS0 {pl : Sem Bool} (he : PE X o ta) (c : Cls X.K C) (hm : Meth X.K C m f) (F : FnOk X.prog X.w X.K X.mg X.base CX k f fd ps sp) (hr : Room k X.A) (hb : Binds X.K fd ps []) (hx : ∀ σ, PassesAt CX X σ (E σ))
    (ht : eval (.Call (.Attribute o m apos) [] [] pos) X.env = (do
      let ov ← eval o X.env
      standAt apos.atName
      let (f, first) ← holding [ov] (getMethod ov m pl)
      callWith pos f first (backTo pos (starEach [] X.env)) (backToKw pos (keywordEach [] X.env))) := by rfl) :
    PE X (.Call (.Attribute o m apos) [] [] pos) (tMethS C m sp E ta tNil) := by
  refine ⟨fun pins s σ H Q I h => ?_⟩
  refine PySem.W.methodCall_KW (pl := pl) (thn (he.run pins s σ H _ I h) fun u s1 ⟨x, H1, I1, rx, a, dx, fs, ex, ea, l, q⟩ => ?_) ht
  subst ex
  obtain rfl : u = Value.ref a := rx
  refine getmeth_ok I1 ea c hm l ?_
  exact PySem.W.callWith_K0 (first := [.ref a]) I1.kIn hm.kp (run_fnS (us := [.ref a]) (vs := [.ref a]) F hr hb (hx σ) I1 (.cons rfl .nil) q)
/-- o.m(k = v, ..) -/
theorem pe_methK0 {pl : Sem Bool} (he : PE X o ta) (c : Cls X.K C) (hm : Meth X.K C m f) (F : FnOk X.prog X.w X.K X.mg X.base CX k f fd ps sp) (hr : Room k X.A) (hb : KBinds X.K fd ps ks g gV) (hx : ∀ σ, PassesAt CX X σ (E σ)) (hkw : PK X kws tk)
    (hall : (backToKw pos (keywordEach kws X.env)).all (·.1.isSome) = true := by rfl) (hks : (backToKw pos (keywordEach kws X.env)).filterMap (·.1) = ks := by rfl)
    (hpl : ((backTo pos (starEach [] X.env)).any (·.1) || (backToKw pos (keywordEach kws X.env)).any (·.1.isNone)) = false := by rfl)
    (ht : eval (.Call (.Attribute o m apos) [] kws pos) X.env = (do
      let ov ← eval o X.env
      standAt apos.atName
      let (f, first) ← holding [ov] (getMethod ov m pl)
      callWith pos f first (backTo pos (starEach [] X.env)) (backToKw pos (keywordEach kws X.env))) := by rfl) :
    PE X (.Call (.Attribute o m apos) [] kws pos) (tMethK C m sp gV E ta tNil tk) := by
  refine ⟨fun pins s σ H Q I h => ?_⟩
  refine PySem.W.methodCall_KW (pl := pl) (thn (he.run pins s σ H _ I h) fun u s1 ⟨x, H1, I1, rx, a, dx, fs, ex, ea, l, q⟩ => ?_) ht
  subst ex
  obtain rfl : u = Value.ref a := rx
  refine getmeth_ok I1 ea c hm l ?_
  refine PySem.W.callWith_KW0 (first := [.ref a]) (h₀ := X.base) I.ok.mod.kin hm.kp hall (thn (hkw.run pos pins s1 σ H1 _ I1 q) fun ws s2 ⟨zs, H2, I2, rz, q2⟩ => ⟨I2.kIn, ?_⟩) hpl
  rw [hks]
  exact run_fnkS (us := [.ref a]) (vs := [.ref a]) F hr hb (hx σ) I2 (.cons rfl .nil) rz q2
end
end FwQ

/-! Fw, part C: operations on values. -/
namespace Fw
open PySem PySem.Spec PyProof.Rows L2

theorem szl {n : Nat} (h : n ≤ ZL) : n ≤ sizeLine := Nat.le_trans h (by rw [sizeLine_eq]; decide)
theorem szl' {n : Nat} (h : n < ZL) : n < sizeLine := Nat.lt_of_lt_of_le h (by rw [sizeLine_eq]; decide)

/-- the class that the module calls c -/
def cAd (K : PySem.W.Frag) (c : Str) : Addr := match PySem.W.nsIn K mainGlobals c with
  | some (some (.ref C)) => C
  | _ => 0
structure ClsOk (K : PySem.W.Frag) (c : Str) : Prop where
  ns : PySem.W.nsIn K mainGlobals c = some (some (.ref (cAd K c)))
  cl : Cls K (cAd K c)
theorem cAd_of {K : PySem.W.Frag} {c : Str} {C : Addr} (h : PySem.W.nsIn K mainGlobals c = some (some (.ref C))) : cAd K c = C := by
  unfold cAd; rw [h]
/-- an exception's dict -/
def RepF (K : PySem.W.Frag) (g : Gh) (dd : Addr) (fs : List (Str × D)) : Prop := ∃ vs, g.F dd = some (.xd vs) ∧ RepM K g vs fs
/-- what is wanted of what a def hands back -/
def PostR (K : PySem.W.Frag) (b : Nat) (g : Gh) (s : Sto) (H : Hp) (r : Rv) (s' : Sto) (Q : VK) (E : XK) : Prop := match r with
  | .ok d => ∀ v g' H', Step b g s H g' s' H' → Wf K g' s' H' → Rep K g' v d → Q v H'
  | .ex c fs => ∀ g' H' dd, Step b g s H g' s' H' → Wf K g' s' H' → RepF K g' dd fs → E (.ref (cAd K c)) (some dd) H'
/-- what a def promises, from what it is worth -/
def SpX (K : PySem.W.Frag) (n : Nat) (f : List D → Sto → Option (Rv × Sto)) : Sp := fun vs H Q E => vs.length = n ∧ ∃ g ds s r s', RepL K g vs ds ∧ Wf K g s H ∧ f ds s = some (r, s') ∧ PostR K s.length g s H r s' Q E

section
variable {K : PySem.W.Frag} {b : Nat} {g g' : Gh} {s s' : Sto} {H H' : Hp}
theorem Wf.hL (W : Wf K g s H) {a : Addr} {vs : List V} (h : g.F a = some (.lst vs)) : H a = some (.lst vs) := by
  rcases W.ext a _ h with e | ⟨e, _⟩
  · exact e
  · cases e
theorem Wf.hT (W : Wf K g s H) {a : Addr} {vs : List V} (h : g.F a = some (.tup vs)) : H a = some (.tup vs) := by
  rcases W.ext a _ h with e | ⟨e, _⟩
  · exact e
  · cases e
theorem Wf.sqL (W : Wf K g s H) {a : Addr} {vs : List V} (h : SqL K g.F a vs) : SqL K H a vs := by
  rcases h with (h | ⟨o, h⟩) | h
  · exact .inl (.inl (W.hL h))
  · rcases W.ext a _ h with e | ⟨e, _⟩
    · exact .inl (.inr ⟨o, e⟩)
    · cases e
  · exact .inr h
/-- what the abstract heap knows, it goes on knowing -/
def Exx (H H' : Hp) : Prop := ∀ a o, H a = some o → H' a = some o
theorem Exx.refl (H : Hp) : Exx H H := fun _ _ h => h
theorem Exx.trans {A B C : Hp} (x : Exx A B) (y : Exx B C) : Exx A C := fun a o h => y a o (x a o h)
theorem Exx.new {p : Addr} {o : HO} (h : H p = none) : Exx H (upd H p o) := fun a u e => by rw [upd_ne (ne_of_none e h)]; exact e
theorem Exx.dom (e : Exx H H') {a : Addr} (h : H a ≠ none) : H' a ≠ none := fun z => by
  cases q : H a with
  | none => exact h q
  | some o =>
    rw [e a o q] at z
    cases z
theorem Wf.exx (W : Wf K g s H) (e : Exx H H') : Wf K g s H' where
  ext := fun a o h => by
    rcases W.ext a o h with q | ⟨q, od, q2⟩
    · exact .inl (e _ _ q)
    · exact .inr ⟨q, od, e _ _ q2⟩
  len := W.len
  at_ := fun n a h => e.dom (W.at_ n a h)
  liv := fun n q h hl => by
    obtain ⟨a, o, h1, h2, h3, h4⟩ := W.liv n q h hl
    exact ⟨a, o, h1, h2, e _ _ h3, h4⟩
  fT := W.fT
  inj := W.inj
theorem Step.exx (e : Exx H H') : Step b g s H g s H' where
  le := .refl g
  keep := fun a o h _ => e a o h
  dom := fun a h => e.dom h
  nt := fun a h => by
    cases q : H a with
    | none => exact absurd q h.1
    | some o => exact .of (e a o q) fun vs z => h.2 vs (z ▸ q)
  fresh := fun _ _ f => .inl f
  own := fun n a h q => by
    rw [List.getElem?_eq_none h] at q
    cases q
  lm := fun _ h _ => h
  grow := Nat.le_refl _
/-- a def that sees no changing object leaves all as it is -/
theorem Step.noObj {F : Hp} {s2 : Sto} {g2 : Gh} (W : Wf K ⟨F, []⟩ [] H) (x : Step 0 ⟨F, []⟩ [] H g2 s2 H') : Exx H H' := fun a o h => x.keep a o h fun n h _ => by
  have := live_lt h
  simp at this
theorem Wf.noObj (W : Wf K g s H) : Wf K ⟨g.F, []⟩ [] H := ⟨W.ext, rfl, fun n a h => by simp at h, fun n q h _ => by have := get_lt h; simp at this, fun n q h => by have := get_lt h; simp at this, fun n m a h => by have := live_lt h; simp at this⟩
/-- behind such a def: what it has made may be known -/
theorem Wf.pure (W : Wf K g s H) {g2 : Gh} {s2 : Sto} (x : Step 0 ⟨g.F, []⟩ [] H g2 s2 H') (W2 : Wf K g2 s2 H') : Step b g s H ⟨g2.F, g.r⟩ s H' ∧ Wf K ⟨g2.F, g.r⟩ s H' := by
  have e : Exx H H' := Step.noObj W.noObj x
  have le : g.le ⟨g2.F, g.r⟩ := ⟨x.le.F, fun _ _ h => h⟩
  have fr : ∀ a, NT H a → g.F a = none → g2.F a = none := fun a h f => by
    rcases x.fresh a h f with q | ⟨n, _, q⟩
    · exact q
    · simp at q
  refine ⟨⟨le, fun a o h _ => e a o h, x.dom, x.nt, fun a h f => .inl (fr a h f), fun n a h q => ?_, fun _ h _ => h, Nat.le_refl _⟩, ⟨W2.ext, W.len, fun n a h => x.dom a (W.at_ n a h), fun n q h hl => ?_, fun n kvs h => ?_, W.inj⟩⟩
  · have q' : g.r[n]? = some a := q
    rw [List.getElem?_eq_none h] at q'; cases q'
  · obtain ⟨a, o, h1, h2, h3, h4⟩ := W.liv n q h hl
    exact ⟨a, o, h1, fr a (.of h3 fun vs z => by subst z; cases q <;> exact (show False from h4).elim) h2, e _ _ h3, h4.mono le⟩
  · obtain ⟨a, kv, h1, h2, h3⟩ := W.fT n kvs h
    exact ⟨a, kv, h1, le.F _ _ h2, h3.mono le⟩

/-! ### results -/
/-- an outcome: the value d, the objects s' -/
def Post (K : PySem.W.Frag) (b : Nat) (g : Gh) (s : Sto) (H : Hp) (d : D) (s' : Sto) (Q : VK) : Prop := ∀ v g' H', Step b g s H g' s' H' → Wf K g' s' H' → Rep K g' v d → Q v H'
theorem Post.now {Q : VK} {d : D} {v : V} (W : Wf K g s H) (r : Rep K g v d) (q : Post K b g s H d s Q) : Q v H := q v g H .refl W r
theorem Post.tup {Q : VK} {ds : List D} {vs : List V} {p : Addr} (W : Wf K g s H) (r : RepL K g vs ds) (q : Post K b g s H (.tup ds) s Q) (hp : H p = none) : Q (.ref p) (upd H p (.tup vs)) := by
  obtain ⟨S, W'⟩ := W.new (b := b) (o := .tup vs) hp
  exact q _ _ _ S W' (.tup (show upd g.F p _ p = _ from upd_same) (r.mono S.le))
theorem Post.lst {Q : VK} {ds : List D} {vs : List V} {p : Addr} (W : Wf K g s H) (r : RepL K g vs ds) (q : Post K b g s H (.lst ds) s Q) (hp : H p = none) : Q (.ref p) (upd H p (.lst vs)) := by
  obtain ⟨S, W'⟩ := W.new (b := b) (o := .lst vs) hp
  exact q _ _ _ S W' (.lst (show upd g.F p _ p = _ from upd_same) (r.mono S.le))
theorem Post.newL {Q : VK} {ds : List D} {vs : List V} {p : Addr} (W : Wf K g s H) (r : RepL K g vs ds) (q : Post K b g s H (.obj s.length) (s ++ [some (.lst ds)]) Q) (hp : H p = none) : Q (.ref p) (upd H p (.lst vs)) := by
  obtain ⟨S, W', R⟩ := W.push (b := b) (o := .lst vs) (q := .lst ds) hp r
  exact q _ _ _ S W' R
theorem Post.newK {Q : VK} {ds : List (Key × D)} {vs : List (Key × V)} {p : Addr} (W : Wf K g s H) (r : RepM K g vs ds) (q : Post K b g s H (.obj s.length) (s ++ [some (.dK ds)]) Q) (hp : H p = none) : Q (.ref p) (upd H p (.dK vs)) := by
  obtain ⟨S, W', R⟩ := W.push (b := b) (o := .dK vs) (q := .dK ds) hp r
  exact q _ _ _ S W' R
theorem Post.newT {Q : VK} {p : Addr} (W : Wf K g s H) (q : Post K b g s H (.obj s.length) (s ++ [some (.dT [])]) Q) (hp : H p = none) : Q (.ref p) (upd H p (.dT [])) := by
  obtain ⟨S, W', R⟩ := W.push (b := b) (o := .dT []) (q := .dT []) hp RepM.nil
  exact q _ _ _ S W' R
theorem Post.write {Q : VK} {n : Nat} {a : Addr} {c q : Ob} {o : HO} {v : V} {d : D} (W : Wf K g s H) (hc : getO s n = some c) (hl : c.live = true) (ha : g.r[n]? = some a) (hr : RepO K g o q) (r : Rep K g v d) (p : Post K b g s H d (setO s n (some q)) Q) : Q v (upd H a o) := by
  obtain ⟨S, W'⟩ := W.write (b := b) hc hl ha hr
  exact p _ _ _ S W' r
/-- the list that object n is -/
theorem Wf.objL (W : Wf K g s H) {n : Nat} {xs : List D} (h : getO s n = some (.lst xs)) : ∃ a vs, g.r[n]? = some a ∧ H a = some (.lst vs) ∧ RepL K g vs xs := by
  obtain ⟨a, o, h1, _, h3, h4⟩ := W.liv n _ h rfl
  cases o with
  | lst vs => exact ⟨a, vs, h1, h3, h4⟩
  | _ => exact (show False from h4).elim
theorem Rep.objA {v : V} {n : Nat} (r : Rep K g v (.obj n)) : ∃ a, v = .ref a ∧ g.r[n]? = some a := by
  cases r with
  | obj h => exact ⟨_, rfl, h⟩
theorem Rep.at_ {v : V} {n : Nat} {a : Addr} (r : Rep K g v (.obj n)) (h : g.r[n]? = some a) : v = .ref a := by
  obtain ⟨a', rfl, e⟩ := r.objA
  rw [h] at e; cases e; rfl

/-! ### two-place operators -/
def OkR (K : PySem.W.Frag) (b : Nat) (r : R2) (f : Sto → D → D → Option D) : Prop := ∀ g s H x y d v u, f s x y = some d → Wf K g s H → Rep K g v x → Rep K g u y → ∀ Q : VK, Post K b g s H d s Q → r v u H Q

def rAddS : R2 := fun x y H Q => ∃ i j, x = .str i ∧ y = .str j ∧ i.length + j.length ≤ sizeLine ∧ Q (.str (i ++ j)) H
/-- t * 1 -/
def rRep1 (K : PySem.W.Frag) : R2 := fun x y H Q => ∃ l xs, x = .ref l ∧ y = .int 1 ∧ SqT K H l xs ∧ Q (.ref l) H
def rBin (K : PySem.W.Frag) : Op → R2
  | .add => fun x y H Q => (rI0 fun i j => .int (i + j)) x y H Q ∨ rAddS x y H Q ∨ rCatA K x y H Q ∨ rCat x y H Q
  | .sub => rI0 fun i j => .int (i - j)
  | .mul => fun x y H Q => (rI CMul fun i j => .int (i * j)) x y H Q ∨ rRepT K x y H Q ∨ rRep1 K x y H Q
  | .fdiv => rI CDivN fun i j => .int (i.fdiv j)
  | .mod => rI (fun _ j => j ≠ 0) fun i j => .int (i.fmod j)
  | .pow => rI CPow fun i j => .int (i ^ j.toNat)
  | .shl => rI CPow fun i j => .int (i * 2 ^ j.toNat)
theorem ok_bin : ∀ o : Op, OkR K b (rBin K o) (fun _ => evBin o)
  | .add => by
    intro g s H x y d v u h W rx ry Q q
    cases rx with
    | int i =>
      cases ry with
      | int j => simp only [evBin, Option.some.injEq] at h; subst h; exact .inl ⟨i, j, rfl, rfl, q.now W (.int _)⟩
      | _ => simp [evBin] at h
    | str i =>
      cases ry with
      | str j =>
        simp only [evBin] at h
        split at h
        · cases h; exact .inr (.inl ⟨i, j, rfl, rfl, szl (by assumption), q.now W (.str _)⟩)
        · cases h
      | _ => simp [evBin] at h
    | @tup a vs ds ha ra =>
      cases ry with
      | @tup c ws es hc rc =>
        simp only [evBin] at h
        split at h
        · cases h
          refine .inr (.inr (.inl ⟨a, c, vs, ws, rfl, rfl, .of (W.hT ha), .of (W.hT hc), ?_, fun e => ?_, fun e1 e2 => ?_, fun e1 e2 p hp => ?_⟩))
          · rw [ra.length, rc.length]; exact szl (by assumption)
          · subst e
            have := ra.length
            have e3 : ds = [] := List.eq_nil_of_length_eq_zero (by simpa using this.symm)
            subst e3
            exact q.now W (.tup hc rc)
          · subst e2
            have := rc.length
            have e3 : es = [] := List.eq_nil_of_length_eq_zero (by simpa using this.symm)
            subst e3
            rw [List.append_nil] at q
            exact q.now W (.tup ha ra)
          · exact q.tup W (ra.append rc) hp
        · cases h
      | _ => simp [evBin] at h
    | @lst a vs ds ha ra =>
      cases ry with
      | @lst c ws es hc rc =>
        simp only [evBin] at h
        split at h
        · cases h
          refine .inr (.inr (.inr ⟨a, c, vs, ws, rfl, rfl, W.hL ha, W.hL hc, ?_, fun p hp => q.lst W (ra.append rc) hp⟩))
          rw [ra.length, rc.length]; exact szl (by assumption)
        · cases h
      | _ => simp [evBin] at h
    | _ => simp [evBin] at h
  | .sub => by
    intro g s H x y d v u h W rx ry Q q
    cases rx <;> cases ry <;> simp [evBin] at h
    subst h; exact ⟨_, _, rfl, rfl, q.now W (.int _)⟩
  | .mul => by
    intro g s H x y d v u h W rx ry Q q
    cases rx with
    | int i =>
      cases ry with
      | int j =>
        simp only [evBin] at h
        split at h
        · cases h; exact .inl ⟨i, j, rfl, rfl, by assumption, q.now W (.int _)⟩
        · cases h
      | _ => simp [evBin] at h
    | @tup a vs ds ha ra =>
      cases ry with
      | int k =>
        simp only [evBin] at h
        split at h
        · rename_i c
          cases h
          by_cases k1 : k = 1
          · subst k1
            refine .inr (.inr ⟨a, vs, rfl, rfl, .of (W.hT ha), q.now W ?_⟩)
            have e : (List.replicate (Int.toNat 1) ds).flatten = ds := by simp
            rw [e]
            exact .tup ha ra
          · refine .inr (.inl ⟨a, k, vs, rfl, rfl, .of (W.hT ha), fun z => ?_, by omega, c.2.2.1, by rw [ra.length]; exact c.2.2.2, fun p hp => q.tup W (ra.flat _) hp⟩)
            subst z
            have := ra.length
            exact c.1 (List.eq_nil_of_length_eq_zero (by simpa using this.symm))
        · cases h
      | _ => simp [evBin] at h
    | _ => simp [evBin] at h
  | .fdiv => by
    intro g s H x y d v u h W rx ry Q q
    cases rx <;> cases ry <;> simp [evBin] at h
    obtain ⟨c, h⟩ := h
    subst h; exact ⟨_, _, rfl, rfl, c, q.now W (.int _)⟩
  | .mod => by
    intro g s H x y d v u h W rx ry Q q
    cases rx <;> cases ry <;> simp [evBin] at h
    obtain ⟨c, h⟩ := h
    subst h; exact ⟨_, _, rfl, rfl, c, q.now W (.int _)⟩
  | .pow => by
    intro g s H x y d v u h W rx ry Q q
    cases rx <;> cases ry <;> simp only [evBin, reduceCtorEq] at h
    split at h
    · cases h; exact ⟨_, _, rfl, rfl, by assumption, q.now W (.int _)⟩
    · cases h
  | .shl => by
    intro g s H x y d v u h W rx ry Q q
    cases rx <;> cases ry <;> simp only [evBin, reduceCtorEq] at h
    split at h
    · cases h; exact ⟨_, _, rfl, rfl, by assumption, q.now W (.int _)⟩
    · cases h

theorem flat_eq {v : V} {d : D} (r : Rep K g v d) : flatV v = flatD d := by cases r <;> rfl
theorem flat_all : ∀ {vs : List V} {ds : List D}, RepL K g vs ds → vs.all flatV = ds.all flatD
  | _, _, .nil => rfl
  | _, _, .cons h r => by rw [List.all_cons, List.all_cons, flat_eq h, flat_all r]
theorem eqF_eq {v u : V} {x y : D} (r : Rep K g v x) (q : Rep K g u y) (fx : flatD x = true) (fy : flatD y = true) : eqV v u = eqFD x y := by
  cases r <;> first | (cases fx; done) | (cases q <;> first | rfl | (cases fy; done))
theorem inF_eq {u : V} {y : D} (q : Rep K g u y) (fy : flatD y = true) : ∀ {vs : List V} {ds : List D}, RepL K g vs ds → ds.all flatD = true → vs.any (fun z => eqV z u) = ds.any fun z => eqFD z y
  | _, _, .nil, _ => rfl
  | _, _, .cons h r, f => by
    rw [List.all_cons, Bool.and_eq_true] at f
    rw [List.any_cons, List.any_cons, eqF_eq h q f.1 fy, inF_eq q fy r f.2]
mutual
theorem Rep.toDp (W : Wf K g s H) : ∀ {v : V} {d : D} {p : PyData}, Rep K g v d → d.toP = some p → Dp K H v p
  | _, _, _, .non, e => by simp [D.toP] at e; subst e; exact .non
  | _, _, _, .bl b, e => by simp [D.toP] at e; subst e; exact .bl b
  | _, _, _, .int b, e => by simp [D.toP] at e; subst e; exact .int b
  | _, _, _, .str b, e => by simp [D.toP] at e; subst e; exact .str b
  | _, .tup ds, _, .tup h r, e => by
    simp only [D.toP, Option.map_eq_some_iff] at e
    obtain ⟨ps, e1, rfl⟩ := e
    exact .tup (.of (W.hT h)) (RepL.toDp W r e1)
  | _, .lst ds, _, .lst h r, e => by
    simp only [D.toP, Option.map_eq_some_iff] at e
    obtain ⟨ps, e1, rfl⟩ := e
    exact .lst (.of (W.hL h)) (RepL.toDp W r e1)
  | _, _, _, .scr h, e => by simp [D.toP] at e
  | _, _, _, .obj h, e => by simp [D.toP] at e
theorem RepL.toDp (W : Wf K g s H) : ∀ {vs : List V} {ds : List D} {ps : List PyData}, RepL K g vs ds → toPL ds = some ps → DpAll K H vs ps
  | _, _, _, .nil, e => by simp [toPL] at e; subst e; exact .nil
  | _, d :: ds, _, .cons h r, e => by
    simp only [toPL] at e
    split at e
    · cases e; exact .cons (Rep.toDp W h (by assumption)) (RepL.toDp W r (by assumption))
    · cases e
end
theorem Wf.sq (W : Wf K g s H) {y : D} {u : V} {ys : List D} (r : Rep K g u y) (e : seqD y = some ys) : ∃ p vs, u = .ref p ∧ (SqL K H p vs ∨ SqT K H p vs) ∧ RepL K g vs ys := by
  cases r with
  | tup h q => simp [seqD] at e; subst e; exact ⟨_, _, rfl, .inr (.of (W.hT h)), q⟩
  | lst h q => simp [seqD] at e; subst e; exact ⟨_, _, rfl, .inl (.of (W.hL h)), q⟩
  | _ => simp [seqD] at e

def rCmp (K : PySem.W.Frag) : Cp → R2
  | .eq => rEq
  | .ne => rNe
  | .lt => rI0 fun i j => .bl (decide (i < j))
  | .le => rI0 fun i j => .bl (decide (i ≤ j))
  | .gt => rI0 fun i j => .bl (decide (j < i))
  | .ge => rI0 fun i j => .bl (decide (j ≤ i))
  | .isN => fun x y H Q => y = .non ∧ Q (.bl (decide (x = .non))) H
  | .notN => fun x y H Q => y = .non ∧ Q (.bl (!decide (x = .non))) H
  | .isin => fun x y H Q => rIn K false x y H Q ∨ rInD K x y H Q
  | .notin => fun x y H Q => rIn K true x y H Q ∨ rNotInD K x y H Q
  | .eqD => rEqD K
  | .neD => rNeD K
theorem scal_eq {v u : V} {x y : D} {r : Bool} (rx : Rep K g v x) (ry : Rep K g u y) (h : scalEq x y = some r) : scal v u = true ∧ decide (v = u) = r := by
  cases rx <;> cases ry <;> simp only [scalEq, Option.some.injEq, reduceCtorEq] at h <;> subst h <;> first
    | exact ⟨rfl, decide_eq_true rfl⟩
    | exact ⟨rfl, decide_eq_false (fun z => by cases z)⟩
    | exact ⟨rfl, dec_int⟩
    | exact ⟨rfl, dec_bl⟩
    | exact ⟨rfl, dec_str⟩
theorem eq_dd {x y : D} {v u : V} {r : Bool} (h : eqDD x y = some r) (W : Wf K g s H) (rx : Rep K g v x) (ry : Rep K g u y) : ∃ d e, Dp K H v d ∧ Dp K H u e ∧ SeqAt.shaped d = true ∧ SeqAt.shaped e = true ∧ PyData.eqv d e = r := by
  unfold eqDD at h
  split at h
  · rename_i p q e1 e2
    split at h
    · rename_i c
      cases h
      exact ⟨p, q, rx.toDp W e1, ry.toDp W e2, c.1, c.2, rfl⟩
    · cases h
  · cases h
theorem ok_cmp : ∀ o : Cp, OkR K b (rCmp K o) (fun _ x y => (evCmp o x y).map D.bl)
  | .eq => by
    intro g s H x y d v u h W rx ry Q q
    simp only [evCmp, Option.map_eq_some_iff] at h
    obtain ⟨r, h, rfl⟩ := h
    obtain ⟨h1, h2⟩ := scal_eq rx ry h
    exact ⟨h1, by rw [h2]; exact q.now W (.bl _)⟩
  | .ne => by
    intro g s H x y d v u h W rx ry Q q
    simp only [evCmp, Option.map_eq_some_iff] at h
    obtain ⟨_, ⟨r, h, rfl⟩, rfl⟩ := h
    obtain ⟨h1, h2⟩ := scal_eq rx ry h
    exact ⟨h1, by rw [h2]; exact q.now W (.bl _)⟩
  | .lt => by
    intro g s H x y d v u h W rx ry Q q
    cases rx <;> cases ry <;> simp [evCmp] at h
    subst h; exact ⟨_, _, rfl, rfl, q.now W (.bl _)⟩
  | .le => by
    intro g s H x y d v u h W rx ry Q q
    cases rx <;> cases ry <;> simp [evCmp] at h
    subst h; exact ⟨_, _, rfl, rfl, q.now W (.bl _)⟩
  | .gt => by
    intro g s H x y d v u h W rx ry Q q
    cases rx <;> cases ry <;> simp [evCmp] at h
    subst h; exact ⟨_, _, rfl, rfl, q.now W (.bl _)⟩
  | .ge => by
    intro g s H x y d v u h W rx ry Q q
    cases rx <;> cases ry <;> simp [evCmp] at h
    subst h; exact ⟨_, _, rfl, rfl, q.now W (.bl _)⟩
  | .isN => by
    intro g s H x y d v u h W rx ry Q q
    cases ry <;> try (simp [evCmp] at h; done)
    cases rx <;> simp [evCmp] at h <;> subst h <;> exact ⟨rfl, q.now W (.bl _)⟩
  | .notN => by
    intro g s H x y d v u h W rx ry Q q
    cases ry <;> try (simp [evCmp] at h; done)
    cases rx <;> simp [evCmp] at h <;> subst h <;> exact ⟨rfl, q.now W (.bl _)⟩
  | .eqD => by
    intro g s H x y d v u h W rx ry Q q
    simp only [evCmp, Option.map_eq_some_iff] at h
    obtain ⟨r, h, rfl⟩ := h
    obtain ⟨d1, e1, a1, a2, a3, a4, rfl⟩ := eq_dd h W rx ry
    exact ⟨d1, e1, a1, a2, a3, a4, q.now W (.bl _)⟩
  | .neD => by
    intro g s H x y d v u h W rx ry Q q
    simp only [evCmp, Option.map_eq_some_iff] at h
    obtain ⟨_, ⟨r, h, rfl⟩, rfl⟩ := h
    obtain ⟨d1, e1, a1, a2, a3, a4, rfl⟩ := eq_dd h W rx ry
    exact ⟨d1, e1, a1, a2, a3, a4, q.now W (.bl _)⟩
  | .notin => by
    intro g s H x y d v u h W rx ry Q q
    simp only [evCmp, Option.map_eq_some_iff] at h
    obtain ⟨_, ⟨r, h, rfl⟩, rfl⟩ := h
    unfold inD at h
    split at h
    · rename_i ys hy
      split at h
      · rename_i c
        cases h
        obtain ⟨p, vs, rfl, hs, rs⟩ := W.sq ry hy
        refine .inl ⟨p, vs, rfl, hs, by rw [flat_eq rx]; exact c.1, by rw [flat_all rs]; exact c.2, ?_⟩
        have e1 : inV v vs = (ys.any fun z => eqFD z x) := by
          unfold inV
          rw [inF_eq rx c.1 rs c.2]
        show Q (.bl (!inV v vs)) H
        rw [e1]
        exact q.now W (.bl _)
      · split at h
        · rename_i xs p ps e1 e2
          split at h
          · rename_i c
            cases h
            exact .inr ⟨p, ps, rx.toDp W e1, ry.toDp W e2, c.1, c.2, q.now W (.bl _)⟩
          · cases h
        · cases h
    · cases h
  | .isin => by
    intro g s H x y d v u h W rx ry Q q
    simp only [evCmp, Option.map_eq_some_iff] at h
    obtain ⟨r, h, rfl⟩ := h
    unfold inD at h
    split at h
    · rename_i ys hy
      split at h
      · rename_i c
        cases h
        obtain ⟨p, vs, rfl, hs, rs⟩ := W.sq ry hy
        refine .inl ⟨p, vs, rfl, hs, by rw [flat_eq rx]; exact c.1, by rw [flat_all rs]; exact c.2, ?_⟩
        show Q (.bl (inV v vs)) H
        unfold inV
        rw [inF_eq rx c.1 rs c.2]
        exact q.now W (.bl _)
      · split at h
        · rename_i xs p ps e1 e2
          split at h
          · rename_i c
            cases h
            exact .inr ⟨p, ps, rx.toDp W e1, ry.toDp W e2, c.1, c.2, q.now W (.bl _)⟩
          · cases h
        · cases h
    · cases h

/-! ### subscripts, slices -/
theorem at_rep {vs : List V} {ds : List D} {i : Int} {d : D} (r : RepL K g vs ds) (h : atI ds i = some d) : ∃ v, atI vs i = some v ∧ Rep K g v d := by
  unfold atI at h ⊢
  rw [r.length]
  cases e : ixN ds.length i with
  | none => rw [e] at h; cases h
  | some j =>
    rw [e] at h
    exact r.get (i := j) h
theorem at_ints {ns : List Int} {i k : Int} (h : atI ns i = some k) : atI (ns.map V.int) i = some (.int k) := by
  unfold atI at h ⊢
  rw [List.length_map]
  cases e : ixN ns.length i with
  | none => rw [e] at h; cases h
  | some j =>
    rw [e] at h
    show (ns.map V.int)[j]? = some (.int k)
    rw [List.getElem?_map, show ns[j]? = some k from h]; rfl
theorem ok_idx : OkR K b (rIx K) atD := by
  intro g s H x y d v u h W rx ry Q q
  cases ry with
  | int i =>
    cases rx with
    | tup ha ra =>
      obtain ⟨w, h1, h2⟩ := at_rep ra h
      exact .inr (.inl ⟨_, _, i, w, rfl, rfl, .of (W.hT ha), h1, q.now W h2⟩)
    | lst ha ra =>
      obtain ⟨w, h1, h2⟩ := at_rep ra h
      exact .inl ⟨_, _, i, w, rfl, rfl, .of (W.hL ha), h1, q.now W h2⟩
    | scr ha =>
      simp only [atD, Option.map_eq_some_iff] at h
      obtain ⟨k, h1, rfl⟩ := h
      exact .inl ⟨_, _, i, _, rfl, rfl, W.sqL ha, at_ints h1, q.now W (.int _)⟩
    | @obj a n ha =>
      simp only [atD] at h
      split at h
      · obtain ⟨a', vs, e1, e2, e3⟩ := W.objL (by assumption)
        rw [ha] at e1; cases e1
        obtain ⟨w, h1, h2⟩ := at_rep e3 h
        exact .inl ⟨_, _, i, w, rfl, rfl, .of e2, h1, q.now W h2⟩
      · cases h
    | _ => simp [atD] at h
  | _ => cases rx <;> simp [atD] at h

theorem cut_rep {vs : List V} {ds : List D} (r : RepL K g vs ds) (lo hi : Option Int) : RepL K g (cutV vs lo hi) (cutD ds lo hi) := by
  unfold cutV cutD
  rw [r.length]
  exact (r.drop _).take _
theorem cut_ints (ns : List Int) (lo hi : Option Int) : cutV (ns.map V.int) lo hi = (cutD ns lo hi).map V.int := by
  unfold cutV cutD
  rw [List.length_map, List.map_take, List.map_drop]
theorem cut_whole {α : Type} {xs : List α} {lo hi : Option Int} (h : HT.sIx xs.length 0 lo = 0 ∧ HT.sIx xs.length xs.length hi = xs.length) : cutD xs lo hi = xs := by
  unfold cutD
  rw [h.1, h.2, List.drop_zero, Nat.sub_zero, List.take_length]
def rSlAll (K : PySem.W.Frag) : V → Option Int → Option Int → Hp → VK → Prop := fun x lo hi H Q => rSlL K x lo hi H Q ∨ rSlA K x lo hi H Q
theorem ok_slc {x d : D} {v : V} {lo hi : Option Int} {Q : VK} (h : slcD x lo hi = some d) (W : Wf K g s H) (rx : Rep K g v x) (q : Post K b g s H d s Q) : rSlAll K v lo hi H Q := by
  cases rx with
  | @tup a vs ds ha ra =>
    simp only [slcD, Option.some.injEq] at h; subst h
    refine .inr ⟨a, vs, rfl, .of (W.hT ha), fun e => ?_, fun e p hp => q.tup W (cut_rep ra lo hi) hp⟩
    rw [ra.length] at e
    rw [cut_whole e] at q
    exact q.now W (.tup ha ra)
  | @lst a vs ds ha ra =>
    simp only [slcD, Option.some.injEq] at h; subst h
    exact .inl ⟨a, vs, rfl, .of (W.hL ha), fun p hp => q.lst W (cut_rep ra lo hi) hp⟩
  | @scr a ns ha =>
    simp only [slcD, Option.some.injEq] at h; subst h
    exact .inl ⟨a, _, rfl, W.sqL ha, fun p hp => by
      rw [cut_ints]
      exact q.lst W (RepL.ints _) hp⟩
  | _ => simp [slcD] at h

/-! ### dicts -/
theorem Wf.objK (W : Wf K g s H) {n : Nat} {xs : List (Key × D)} (h : getO s n = some (.dK xs)) : ∃ a vs, g.r[n]? = some a ∧ H a = some (.dK vs) ∧ RepM K g vs xs := by
  obtain ⟨a, o, h1, _, h3, h4⟩ := W.liv n _ h rfl
  cases o with
  | dK vs => exact ⟨a, vs, h1, h3, h4⟩
  | _ => exact (show False from h4).elim
theorem Wf.objT (W : Wf K g s H) {n : Nat} {xs : List (List Key × D)} (h : getO s n = some (.dT xs)) : ∃ a vs, g.r[n]? = some a ∧ H a = some (.dT vs) ∧ RepM K g vs xs := by
  obtain ⟨a, o, h1, _, h3, h4⟩ := W.liv n _ h rfl
  cases o with
  | dT vs => exact ⟨a, vs, h1, h3, h4⟩
  | _ => exact (show False from h4).elim
theorem Wf.objF (W : Wf K g s H) {n : Nat} {xs : List (List Key × D)} (h : getO s n = some (.fT xs)) : ∃ a vs, g.r[n]? = some a ∧ Rd H a (.dT vs) ∧ RepM K g vs xs := by
  obtain ⟨a, kv, h1, h2, h3⟩ := W.fT n _ h
  refine ⟨a, kv, h1, ?_, h3⟩
  rcases W.ext a _ h2 with e | ⟨_, od, e⟩
  · exact .inl e
  · exact .inr ⟨od, e⟩
theorem ok_look {x k : D} {v u : V} {o : Option D} (h : dLook s x k = some o) (W : Wf K g s H) (rx : Rep K g v x) (rk : Rep K g u k) : ∃ a w, v = .ref a ∧ DGet H a u w ∧ (∀ d, o = some d → ∃ z, w = some z ∧ Rep K g z d) ∧ (o = none → w = none) := by
  cases rx with
  | @obj a n ha =>
    simp only [dLook] at h
    split at h
    · rename_i kvs hk
      obtain ⟨a', vs, e1, e2, e3⟩ := W.objK hk
      rw [ha] at e1; cases e1
      simp only [Option.map_eq_some_iff] at h
      obtain ⟨k', h1, rfl⟩ := h
      refine ⟨a, _, rfl, .inl ⟨vs, k', .inl e2, rk.key h1, rfl⟩, (e3.look k').1, (e3.look k').2⟩
    · rename_i kvs hk
      obtain ⟨a', vs, e1, e2, e3⟩ := W.objT hk
      rw [ha] at e1; cases e1
      cases rk with
      | @tup c ws ds hc rc =>
        simp only [Option.map_eq_some_iff] at h
        obtain ⟨k', h1, rfl⟩ := h
        have ew := rc.keys h1
        subst ew
        exact ⟨a, _, rfl, .inr ⟨vs, k', c, .inl e2, rfl, W.hT hc, rfl⟩, (e3.look k').1, (e3.look k').2⟩
      | _ => simp at h
    · rename_i kvs hk
      obtain ⟨a', vs, e1, e2, e3⟩ := W.objF hk
      rw [ha] at e1; cases e1
      cases rk with
      | @tup c ws ds hc rc =>
        simp only [Option.map_eq_some_iff] at h
        obtain ⟨k', h1, rfl⟩ := h
        have ew := rc.keys h1
        subst ew
        exact ⟨a, _, rfl, .inr ⟨vs, k', c, e2, rfl, W.hT hc, rfl⟩, (e3.look k').1, (e3.look k').2⟩
      | _ => simp at h
    · cases h
  | _ => simp [dLook] at h

/-! ### built-in functions -/
theorem ok_len {x : D} {v : V} {n : Nat} (h : lenD s x = some n) (W : Wf K g s H) (rx : Rep K g v x) : LenV K v H n := by
  cases rx with
  | tup ha ra => simp [lenD] at h; subst h; exact .inr ⟨_, .of (W.hT ha), ra.length.symm⟩
  | lst ha ra => simp [lenD] at h; subst h; exact .inl ⟨_, .of (W.hL ha), ra.length.symm⟩
  | scr ha => simp [lenD] at h; subst h; exact .inl ⟨_, W.sqL ha, by rw [List.length_map]⟩
  | str y =>
    simp only [lenD] at h
    split at h
    · cases h; exact ⟨szl (by assumption), rfl⟩
    · cases h
  | obj ha =>
    simp only [lenD] at h
    split at h
    · cases h
      obtain ⟨a', vs, e1, e2, e3⟩ := W.objL (by assumption)
      rw [ha] at e1; cases e1
      exact .inl ⟨_, .of e2, e3.length.symm⟩
    · cases h
  | _ => simp [lenD] at h
theorem ok_seq {x : D} {v : V} {ds : List D} (h : listD s x = some ds) (W : Wf K g s H) (rx : Rep K g v x) : ∃ a vs, v = .ref a ∧ RepL K g vs ds ∧ (SqL K H a vs ∨ (SqT K H a vs ∧ x = .tup ds)) := by
  cases rx with
  | tup ha ra => simp [listD] at h; subst h; exact ⟨_, _, rfl, ra, .inr ⟨.of (W.hT ha), rfl⟩⟩
  | lst ha ra => simp [listD] at h; subst h; exact ⟨_, _, rfl, ra, .inl (.of (W.hL ha))⟩
  | obj ha =>
    simp only [listD] at h
    split at h
    · cases h
      obtain ⟨a', vs, e1, e2, e3⟩ := W.objL (by assumption)
      rw [ha] at e1; cases e1
      exact ⟨_, _, rfl, e3, .inl (.of e2)⟩
    · cases h
  | _ => simp [listD] at h
def rB1 (K : PySem.W.Frag) : B1 → List V → Hp → VK → Prop
  | .len => fun xs H Q => ∃ (x : V) (n : Nat), xs = [x] ∧ LenV K x H n ∧ Q (.int n) H
  | .abs => fun xs H Q => ∃ i, xs = [.int i] ∧ Q (.int (if i < 0 then -i else i)) H
  | .int => fun xs H Q => (∃ i, xs = [.int i] ∧ Q (.int i) H) ∨ ∃ k, xs = [.bl k] ∧ Q (.int (if k then 1 else 0)) H
  | .bool => fun xs H Q => (∃ i, xs = [.int i] ∧ Q (.bl (i != 0)) H) ∨ ∃ k, xs = [.bl k] ∧ Q (.bl k) H
  | .sum => rSum K
  | .all => rAll K
  | .any => rAny K
  | .tup => fun xs H Q => ∃ p ys, xs = [.ref p] ∧ ((SqL K H p ys ∧ ∀ l, H l = none → Q (.ref l) (upd H l (.tup ys))) ∨ (SqT K H p ys ∧ Q (.ref p) H))
  | .lst => fun xs H Q => ∃ p ys, xs = [.ref p] ∧ (SqL K H p ys ∨ SqT K H p ys) ∧ ∀ l, H l = none → Q (.ref l) (upd H l (.lst ys))
theorem RepL.bls {g : Gh} : ∀ {vs : List V} {ds : List D} {bs : List Bool}, RepL K g vs ds → blsD ds = some bs → vs = bs.map V.bl
  | _, _, bs, .nil, h => by cases h; rfl
  | _, _, bs, .cons r rr, h => by
    cases r with
    | bl x =>
      simp only [blsD] at h
      obtain ⟨t, h1, rfl⟩ := Option.map_eq_some_iff.mp h
      rw [RepL.bls rr h1]; rfl
    | _ => simp [blsD] at h
theorem ok_b1 {f : B1} {x d : D} {v : V} {Q : VK} (h : evB1 s f x = some d) (W : Wf K g s H) (rx : Rep K g v x) (q : Post K b g s H d s Q) : rB1 K f [v] H Q := by
  cases f with
  | len =>
    simp only [evB1, Option.map_eq_some_iff] at h
    obtain ⟨n, h1, rfl⟩ := h
    exact ⟨v, n, rfl, ok_len h1 W rx, q.now W (.int _)⟩
  | abs =>
    cases rx with
    | int i => simp only [evB1, Option.some.injEq] at h; subst h; exact ⟨i, rfl, q.now W (.int _)⟩
    | _ => simp [evB1] at h
  | int =>
    cases rx with
    | int i => simp only [evB1, Option.some.injEq] at h; subst h; exact .inl ⟨i, rfl, q.now W (.int _)⟩
    | bl i => simp only [evB1, Option.some.injEq] at h; subst h; exact .inr ⟨i, rfl, q.now W (.int _)⟩
    | _ => simp [evB1] at h
  | bool =>
    cases rx with
    | int i => simp only [evB1, Option.some.injEq] at h; subst h; exact .inl ⟨i, rfl, q.now W (.bl _)⟩
    | bl i => simp only [evB1, Option.some.injEq] at h; subst h; exact .inr ⟨i, rfl, q.now W (.bl _)⟩
    | _ => simp [evB1] at h
  | sum =>
    cases rx with
    | lst ha ra =>
      simp only [evB1, Option.map_eq_some_iff] at h
      obtain ⟨n, h1, rfl⟩ := h
      obtain ⟨ns, e1, e2⟩ := ra.sums h1
      subst e1 e2
      exact ⟨_, ns, rfl, .of (W.hL ha), q.now W (.int _)⟩
    | _ => simp [evB1] at h
  | all =>
    cases rx with
    | lst ha ra =>
      simp only [evB1, Option.map_eq_some_iff] at h
      obtain ⟨bs, h1, rfl⟩ := h
      have e1 := ra.bls h1
      subst e1
      exact ⟨_, bs, rfl, .of (W.hL ha), q.now W (.bl _)⟩
    | _ => simp [evB1] at h
  | any =>
    cases rx with
    | lst ha ra =>
      simp only [evB1, Option.map_eq_some_iff] at h
      obtain ⟨bs, h1, rfl⟩ := h
      have e1 := ra.bls h1
      subst e1
      exact ⟨_, bs, rfl, .of (W.hL ha), q.now W (.bl _)⟩
    | _ => simp [evB1] at h
  | tup =>
    simp only [evB1, Option.map_eq_some_iff] at h
    obtain ⟨ds, h1, rfl⟩ := h
    obtain ⟨a, vs, rfl, r, c⟩ := ok_seq h1 W rx
    rcases c with c | ⟨c, rfl⟩
    · exact ⟨a, vs, rfl, .inl ⟨c, fun l hl => q.tup W r hl⟩⟩
    · exact ⟨a, vs, rfl, .inr ⟨c, q.now W rx⟩⟩
  | lst =>
    simp only [evB1, Option.map_eq_some_iff] at h
    obtain ⟨ds, h1, rfl⟩ := h
    obtain ⟨a, vs, rfl, r, c⟩ := ok_seq h1 W rx
    exact ⟨a, vs, rfl, c.imp id (·.1), fun l hl => q.lst W r hl⟩
theorem ok_tru {x : D} {v : V} {k : Bool} (h : truD s x = some k) (W : Wf K g s H) (rx : Rep K g v x) : TruV K v H k := by
  have emp : ∀ {vs : List V} {ds : List D}, RepL K g vs ds → (!ds.isEmpty) = !vs.isEmpty := fun r => by cases r <;> rfl
  cases rx with
  | non => simp only [truD, Option.some.injEq] at h; exact (show k = false from h.symm)
  | bl c => simp only [truD, Option.some.injEq] at h; exact (show k = c from h.symm)
  | int c => simp only [truD, Option.some.injEq] at h; exact (show k = (c != 0) from h.symm)
  | str y =>
    simp only [truD] at h
    split at h
    · cases h; exact ⟨szl (by assumption), rfl⟩
    · cases h
  | tup ha ra => simp only [truD, Option.some.injEq] at h; exact .inr (.inl ⟨_, .of (W.hT ha), by rw [← h, emp ra]⟩)
  | lst ha ra => simp only [truD, Option.some.injEq] at h; exact .inl ⟨_, .of (W.hL ha), by rw [← h, emp ra]⟩
  | scr ha => simp [truD] at h
  | obj ha =>
    simp only [truD] at h
    split at h
    · obtain ⟨a', vs, e1, e2, e3⟩ := W.objL (by assumption)
      rw [ha] at e1; cases e1
      simp only [Option.some.injEq] at h
      exact .inl ⟨_, .of e2, by rw [← h, emp e3]⟩
    · cases h
def tyN : Ty → String
  | .tuple => "tuple"
  | .list => "list"
  | .str => "str"
  | .int => "int"
  | .bool => "bool"
theorem ok_isi {x : D} {v : V} {c : Ty} {k : Bool} (h : isID s x c = some k) (W : Wf K g s H) (rx : Rep K g v x) {Q : VK} (q : Q (.bl k) H) : rIsi K [v, .ty (tyN c)] H Q := by
  have fin : ∀ {T : String}, TyX K H v (.type T) → kitB T (tyN c) = some k → rIsi K [v, .ty (tyN c)] H Q := fun {T} t e => ⟨v, .ty (tyN c), .type T, .type (tyN c), k, rfl, .ty _, t, kit_ty e, q⟩
  cases rx with
  | non => refine fin (.base .non) ?_; simp [isID] at h; subst h; cases c <;> decide +kernel
  | bl y => refine fin (.base (.bl y)) ?_; cases c <;> simp [isID] at h <;> subst h <;> decide +kernel
  | int y => refine fin (.base (.int y)) ?_; cases c <;> simp [isID] at h <;> subst h <;> decide +kernel
  | str y => refine fin (.base (.str y)) ?_; cases c <;> simp [isID] at h <;> subst h <;> decide +kernel
  | tup ha ra => refine fin (.base (.tup (W.hT ha))) ?_; cases c <;> simp [isID] at h <;> subst h <;> decide +kernel
  | lst ha ra => refine fin (.base (.lst (W.hL ha))) ?_; cases c <;> simp [isID] at h <;> subst h <;> decide +kernel
  | scr ha => simp [isID] at h
  | obj ha =>
    simp only [isID] at h
    split at h
    · obtain ⟨a', vs, e1, e2, e3⟩ := W.objL (by assumption)
      rw [ha] at e1; cases e1
      refine fin (.base (.lst e2)) ?_
      cases c <;> simp at h <;> subst h <;> decide +kernel
    · cases h
      obtain ⟨a', vs, e1, e2, e3⟩ := W.objK (by assumption)
      rw [ha] at e1; cases e1
      exact fin (.base (.dK e2)) (by cases c <;> decide +kernel)
    · cases h
      obtain ⟨a', vs, e1, e2, e3⟩ := W.objT (by assumption)
      rw [ha] at e1; cases e1
      exact fin (.base (.dT e2)) (by cases c <;> decide +kernel)
    · cases h
end
end Fw

/-! Fw, part D: the readings of our syntax, and that what the evaluator says holds of them. -/
namespace Fw
open PySem PySem.Spec PyProof.Rows L2

/-- sorted(xs, key=f), xs a list of tuples at an address, f gives the first, an int -/
def tSortK (ta : TE) : TE := fun σ H Q => ta σ H fun x H1 => ∃ (l : Addr) (vs : List V) (ks : List Int), x = .ref l ∧ H1 l = some (.lst vs) ∧ vs.length = ks.length ∧ vs.length ≤ 60 ∧
  (∀ (i : Nat) (v : V) (k : Int), vs[i]? = some v → ks[i]? = some k → ∃ (a : Addr) (us : List V), v = .ref a ∧ H1 a = some (.tup (.int k :: us))) ∧
  ∀ p, H1 p = none → Q (.ref p) (upd H1 p (.lst ((sortK (ks.zip vs)).map (·.2))))
/-- a list or a tuple is gone through -/
def iSeq (K : PySem.W.Frag) (tl : TE) : TI := fun σ H R => tl σ H fun x H1 => ∃ a, x = .ref a ∧ (((∃ xs, SqL K H1 a xs) ∧ R (Itl K a) H1) ∨ ((∃ xs, SqT K H1 a xs) ∧ R (Itt K a) H1))

structure Rc where
  K : PySem.W.Frag
  fx : Nat → List D → Sto → Option (Rv × Sto)
  ar : Nat → Nat

def Gs.n : Gs → Nat
  | .nil => 0
  | .cons _ r => r.n + 1
mutual
def rdG (K : PySem.W.Frag) : G → TG
  | .name i => gName i
  | .tup gs => gTup K gs.n (rdGs K gs)
def rdGs (K : PySem.W.Frag) : Gs → TGs
  | .nil => gNil
  | .cons g gs => gCons (rdG K g) (rdGs K gs)
end
mutual
def rdE (c : Rc) : E → TE
  | .var i => tVar i
  | .non => tC .non
  | .bl b => tC (.bl b)
  | .int i => tC (.int i)
  | .str x => tC (.str x)
  | .tup es => tTup (rdEs c es)
  | .lst es => tLst (rdEs c es)
  | .newL es => tLst (rdEs c es)
  | .newK => tDNewK
  | .newT => tDNewT
  | .disp ks es => tDisp (rdDs c ks es)
  | .bin o a b => tOp (rBin c.K o) (rdE c a) (rdE c b)
  | .cmp o a b => tOp (rCmp c.K o) (rdE c a) (rdE c b)
  | .chn o o' a b d => tChain (rCmp c.K o) (rCmp c.K o') (rdE c a) (rdE c b) (rdE c d)
  | .not a => tNotV (rdE c a)
  | .and a b => tAndV (rdE c a) (rdE c b)
  | .or a b => tOrV (rdE c a) (rdE c b)
  | .ife t a b => tIf (rdT c t) (rdE c a) (rdE c b)
  | .idx a b => tOp (rIx c.K) (rdE c a) (rdE c b)
  | .dget a k => tDGet (rdE c a) (rdE c k)
  | .dnin k a => tDNotIn (rdE c k) (rdE c a)
  | .din k a => tDIn (rdE c k) (rdE c a)
  | .slc a lo hi => tSl (rSlAll c.K) (rdE c a) (rdO c lo) (rdO c hi)
  | .call _ i es => tCall (SpX c.K (c.ar i) (c.fx i)) [] E0 (rdEs c es)
  | .callK _ i perm es ks => tCallK (SpX c.K (c.ar i) (c.fx i)) (permL .non es.n perm) E0 (rdEs c es) (rdEs c ks)
  | .b1 f a => tCB (rB1 c.K f) (tCons (rdE c a) tNil)
  | .newLst a => tCB (rB1 c.K .lst) (tCons (rdE c a) tNil)
  | .tupRg a => tTupRg (tRg1 (rdE c a))
  | .lstRg a => tLstRg (tRg1 (rdE c a))
  | .newLstRg a => tLstRg (tRg1 (rdE c a))
  | .max2 a b => tCB (fun xs H Q => ∃ i j, xs = [.int i, .int j] ∧ Q (.int (if j > i then j else i)) H) (tCons (rdE c a) (tCons (rdE c b) tNil))
  | .isI a t => tCB (rIsi c.K) (tCons (rdE c a) (tCons (tC (.ty (tyN t))) tNil))
  | .join a b => tM1 (fun x xs H Q => ∃ a p, ∃ ys : List Str, x = .str a ∧ xs = [.ref p] ∧ (SqL c.K H p (ys.map V.str) ∨ SqT c.K H p (ys.map V.str)) ∧ (ys.map (·.length)).sum + ys.length * a.length ≤ 16777216 ∧ Q (.str (Txt.join a ys)) H) (rdE c a) (rdE c b)
  | .pop a => tBM0 c.K "list" rPop (rdE c a)
  | .popAt a b => tBM c.K "list" rPopAt (rdE c a) (tCons (rdE c b) tNil)
  | .app a b => tBM c.K "list" rAppend (rdE c a) (tCons (rdE c b) tNil)
  | .ext a b => tBM c.K "list" rExtend (rdE c a) (tCons (rdE c b) tNil)
  | .newSort a => tSortK (rdE c a)
  | .fld a f => tFld c.K (rdE c a) f
  | .mk cn i es => fun σ H Q => ClsOk c.K cn → tMake (cAd c.K cn) (SpX c.K (c.ar i) (c.fx i)) [] E0 (rdEs c es) σ H Q
  | .meth cn m i a es => tMeth (cAd c.K cn) m (SpX c.K (c.ar i) (c.fx i)) [] E0 (rdE c a) (rdEs c es)
  | .mkK cn i perm es ks => fun σ H Q => ClsOk c.K cn → tMakeK (cAd c.K cn) es.n ks.n (SpX c.K (c.ar i) (c.fx i)) (permL .non (es.n + 1) perm) E0 (rdEs c es) (rdEs c ks) σ H Q
  | .methK cn m i perm a es ks => FwQ.tMethK (cAd c.K cn) m (SpX c.K (c.ar i) (c.fx i)) (fun vs zs => permL .non (es.n + 1) perm vs zs) (fun _ => E0) (rdE c a) (rdEs c es) (rdEs c ks)
  | .rev a => FwR.tRev c.K (rdE c a)
  | .sort a => tCB (FwR.rSortD c.K) (tCons (rdE c a) tNil)
  | .lc g it t e own => tLc (rdI c it) (rdG c.K g) (rdT c t) (rdE c e) own
  | .newLc g it t e own => tLc (rdI c it) (rdG c.K g) (rdT c t) (rdE c e) own
def rdEs (c : Rc) : Es → TA
  | .nil => tNil
  | .cons e es => tCons (rdE c e) (rdEs c es)
def rdDs (c : Rc) : List Str → Es → List (TE × TE)
  | k :: ks, .cons e es => (tC (.str k), rdE c e) :: rdDs c ks es
  | _, .nil => []
  | [], .cons e es => (tC .non, rdE c e) :: rdDs c [] es
def rdO (c : Rc) : Oe → TO
  | .none => tNoPart
  | .some e => tPart (rdE c e)
def rdT (c : Rc) : T → TT
  | .yes => tYes
  | .tru e => fun σ H Q => rdE c e σ H fun x H' => ∃ k, TruV c.K x H' k ∧ Q k H'
  | .val e => tTest (rdE c e)
  | .and a b => tAnd (rdT c a) (rdT c b)
  | .or a b => tOr (rdT c a) (rdT c b)
  | .not a => tNot (rdT c a)
def rdI (c : Rc) : It → TI
  | .seq e => iSeq c.K (rdE c e)
  | .rng1 e => iRng1 (tCons (rdE c e) tNil)
  | .rng2 a b => iRng2 (tCons (rdE c a) (tCons (rdE c b) tNil))
  | .zip a b => FwR.iZipB c.K (tCons (rdE c a) (tCons (rdE c b) tNil))
  | .enum e => FwR.iEnumB c.K (tCons (rdE c e) tNil)
  | .keys i => iKeys (tVar i)
end
mutual
def rdX (c : Rc) (W : WX) : Xe → TE
  | .e a => rdE c a
  | .call _ i es => tCallS (SpX c.K (c.ar i) (c.fx i)) (WE W) (rdEs c es)
  | .callK _ i perm es ks => FwQ.tCallKS (SpX c.K (c.ar i) (c.fx i)) (permL .non es.n perm) (WE W) (rdEs c es) (rdEs c ks)
  | .meth cn m i a es => FwQ.tMethS (cAd c.K cn) m (SpX c.K (c.ar i) (c.fx i)) (WE W) (rdE c a) (rdEs c es)
  | .tup xs => tTup (rdXs c W xs)
  | .lst xs => tLst (rdXs c W xs)
  | .ife t a b => tIf (rdT c t) (rdX c W a) (rdX c W b)
  | .idx x b => tOp (rIx c.K) (rdX c W x) (rdE c b)
  | .bin o x y => tOp (rBin c.K o) (rdX c W x) (rdX c W y)
def rdXs (c : Rc) (W : WX) : Xs → TA
  | .nil => tNil
  | .cons x xs => tCons (rdX c W x) (rdXs c W xs)
end
mutual
/-- a: the caught exception, cls its class, d its dict; C: the class that the clause names; i: its slot -/
def rdHE (c : Rc) (i : Option Nat) (C a : Addr) (cls : Value) (d : Option Addr) : HE → TE
  | .e x => rdE c x
  | .xf f => match i with
    | some j => fun σ H Q => PySem.W.findIn c.K (.ref C) f = some none → tXf a cls d C f (tVar j) σ H Q
    | none => fun _ _ _ => False
  | .tup hs => tTup (rdHEs c i C a cls d hs)
def rdHEs (c : Rc) (i : Option Nat) (C a : Addr) (cls : Value) (d : Option Addr) : HEs → TA
  | .nil => tNil
  | .cons h hs => tCons (rdHE c i C a cls d h) (rdHEs c i C a cls d hs)
end
/-- the clauses -/
def rdHds (c : Rc) : List Hd → List (Value × Option Nat × (Addr → Value → Option Addr → TS))
  | [] => []
  | h :: r => (.ref (cAd c.K h.cls), h.slot, fun a cls d => tRet (rdHE c h.slot (cAd c.K h.cls) a cls d h.ret)) :: rdHds c r
mutual
def rdS (c : Rc) (W : WX) : S → TS
  | .retX x => tRet (rdX c W x)
  | .exprX x => tDrop (rdX c W x)
  | .asgX g x => tAsg (rdX c W x) (rdG c.K g)
  | .raise cn fs es => fun _ σ H => FwQ.tMkE (cAd c.K cn) fs (rdEs c es) σ H fun cls d H' => W cls d σ H'
  | .try_ b hs => fun D σ H => rdSs c (FwQ.wMA c.K W D (rdHds c hs)) b D σ H
  | .setp o i o2 i2 e e2 => tAsg (tTup (tCons (rdE c e) (tCons (rdE c e2) tNil))) (gTup c.K 2 (gCons (gSub (rdE c o) (rdE c i) rSetL) (gCons (gSub (rdE c o2) (rdE c i2) rSetL) gNil)))
  | .sfld cn o f e => fun D σ H => NoAttr c.K (cAd c.K cn) f → sFld c.K (rdE c o) (rdE c e) f D σ H
  | .asg g e => tAsg (rdE c e) (rdG c.K g)
  | .par i j a b => tPar i j (tCons (rdE c a) (tCons (rdE c b) tNil))
  | .seti o i e => tAsg (rdE c e) (gSub (rdE c o) (rdE c i) rSetL)
  | .dput o k e => sDPut (rdE c o) (rdE c k) (rdE c e)
  | .expr e => tDrop (rdE c e)
  | .ret e => tRet (rdE c e)
  | .ife t a b => tIfS (rdT c t) (rdSs c W a) (rdSs c W b)
  | .whl t b => tWhile (rdT c t) (rdSs c W b)
  | .for_ g it b => match it with
    | .keys i => tLock (tFor (iKeys (tVar i)) (rdG c.K g) (rdSs c W b))
    | it' => tFor (rdI c it') (rdG c.K g) (rdSs c W b)
  | .never => tNever
  | .pass => tNext
  | .brk => tBreak
  | .cont => tCont
def rdSs (c : Rc) (W : WX) : Ss → TS
  | .nil => tNext
  | .cons s ss => tSeq (rdS c W s) (rdSs c W ss)
  | .frz _ ss => rdSs c W ss
end
end Fw

/-! Fw, part E: what the evaluator says holds of the readings: expressions. -/
namespace Fw
open PySem PySem.Spec PyProof.Rows L2

section
variable {K : PySem.W.Frag} {b : Nat} {g g1 g' : Gh} {s s1 s' : Sto} {H H1 H' : Hp} {env : En} {σ : L2.St}

theorem Post.after {Q : VK} {d : D} (W : Wf K g s H) (S : Step b g s H g1 s1 H1) (W1 : Wf K g1 s1 H1) (q : Post K b g s H d s' Q) : Post K b g1 s1 H1 d s' Q := fun v g2 H2 S2 W2 r => q v g2 H2 (S.trans W W1 S2) W2 r
def PostL (K : PySem.W.Frag) (b : Nat) (g : Gh) (s : Sto) (H : Hp) (ds : List D) (s' : Sto) (Q : List V → Hp → Prop) : Prop := ∀ vs g' H', Step b g s H g' s' H' → Wf K g' s' H' → RepL K g' vs ds → Q vs H'
def PostT (K : PySem.W.Frag) (b : Nat) (g : Gh) (s : Sto) (H : Hp) (r : Bool) (s' : Sto) (Q : Bool → Hp → Prop) : Prop := ∀ g' H', Step b g s H g' s' H' → Wf K g' s' H' → Q r H'
def PostO (K : PySem.W.Frag) (b : Nat) (g : Gh) (s : Sto) (H : Hp) (r : Option Int) (s' : Sto) (Q : Option Int → Hp → Prop) : Prop := ∀ g' H', Step b g s H g' s' H' → Wf K g' s' H' → Q r H'

def OkE (K : PySem.W.Frag) (b : Nat) (env : En) (te : TE) (f : Sto → Option (D × Sto)) : Prop := ∀ g s σ H d s', f s = some (d, s') → Wf K g s H → EnR K g env σ → ∀ Q : VK, Post K b g s H d s' Q → te σ H Q
def OkA (K : PySem.W.Frag) (b : Nat) (env : En) (te : TA) (f : Sto → Option (List D × Sto)) : Prop := ∀ g s σ H d s', f s = some (d, s') → Wf K g s H → EnR K g env σ → ∀ Q, PostL K b g s H d s' Q → te σ H Q
def OkT (K : PySem.W.Frag) (b : Nat) (env : En) (te : TT) (f : Sto → Option (Bool × Sto)) : Prop := ∀ g s σ H d s', f s = some (d, s') → Wf K g s H → EnR K g env σ → ∀ Q, PostT K b g s H d s' Q → te σ H Q
def OkO (K : PySem.W.Frag) (b : Nat) (env : En) (te : TO) (f : Sto → Option (Option Int × Sto)) : Prop := ∀ g s σ H d s', f s = some (d, s') → Wf K g s H → EnR K g env σ → ∀ Q, PostO K b g s H d s' Q → te σ H Q

/-! what is gone through -/
def Src.at_ : Src → Sto → Nat → Option D
  | .vals l, _, i => l[i]?
  | .objl n _, s, i => match getO s n with
    | some (.lst xs) => xs[i]?
    | _ => none
def Src.stop : Src → Sto → Nat → Prop
  | .vals l, _, i => l.length = i
  | .objl n _, s, i => ∃ xs, getO s n = some (.lst xs) ∧ xs.length ≤ i
structure Goes (K : PySem.W.Frag) (b : Nat) (g : Gh) (s : Sto) (H : Hp) (J : L2.It) (src : Src) : Prop where
  item : ∀ (i : Nat) g2 s2 H2 d, Step b g s H g2 s2 H2 → Wf K g2 s2 H2 → src.at_ s2 i = some d → J.go i H2 ∧ ∀ x H3, J.yld i H2 x H3 → ∃ g3, Step b g2 s2 H2 g3 s2 H3 ∧ Wf K g3 s2 H3 ∧ Rep K g3 x d
  done : ∀ (i : Nat) g2 s2 H2, Step b g s H g2 s2 H2 → Wf K g2 s2 H2 → src.stop s2 i → J.stop i H2
def OkI (K : PySem.W.Frag) (b : Nat) (env : En) (te : TI) (f : Sto → Option (Src × Sto)) : Prop := ∀ g s σ H src s', f s = some (src, s') → Wf K g s H → EnR K g env σ → ∀ R : L2.It → Hp → Prop,
  (∀ J g' H', Step b g s H g' s' H' → Wf K g' s' H' → Goes K b g' s' H' J src → R J H') → te σ H R

theorem goes_lst {a : Addr} {vs : List V} {ds : List D} (h : g.F a = some (.lst vs)) (r : RepL K g vs ds) : Goes K b g s H (Itl K a) (.vals ds) where
  item := fun i g2 s2 H2 d st W hi => by
    have e := st.le
    obtain ⟨v, h1, h2⟩ := (r.mono e).get (i := i) hi
    have hs : SqL K H2 a vs := .of (W.hL (e.F _ _ h))
    refine ⟨⟨vs, v, hs, h1⟩, fun x H3 y => ?_⟩
    obtain ⟨rfl, y⟩ := y
    have := (y vs hs).symm.trans h1
    cases this
    exact ⟨g2, .refl, W, h2⟩
  done := fun i g2 s2 H2 st W hi => ⟨vs, .of (W.hL (st.le.F _ _ h)), by rw [r.length]; exact Nat.le_of_eq hi⟩
theorem goes_tup {a : Addr} {vs : List V} {ds : List D} (h : g.F a = some (.tup vs)) (r : RepL K g vs ds) : Goes K b g s H (Itt K a) (.vals ds) where
  item := fun i g2 s2 H2 d st W hi => by
    have e := st.le
    obtain ⟨v, h1, h2⟩ := (r.mono e).get (i := i) hi
    have hs : SqT K H2 a vs := .of (W.hT (e.F _ _ h))
    refine ⟨⟨vs, v, hs, h1⟩, fun x H3 y => ?_⟩
    obtain ⟨rfl, y⟩ := y
    have := (y vs hs).symm.trans h1
    cases this
    exact ⟨g2, .refl, W, h2⟩
  done := fun i g2 s2 H2 st W hi => ⟨vs, .of (W.hT (st.le.F _ _ h)), by rw [r.length]; exact Nat.le_of_eq hi⟩
theorem goes_scr {a : Addr} {ns : List Int} (h : SqL K g.F a (ns.map V.int)) : Goes K b g s H (Itl K a) (.vals (ns.map .int)) where
  item := fun i g2 s2 H2 d st W hi => by
    have e := st.le
    have hi' : (ns.map D.int)[i]? = some d := hi
    obtain ⟨v, h1, h2⟩ := (RepL.ints (K := K) (g := g2) ns).get (i := i) hi'
    have hs : SqL K H2 a (ns.map V.int) := W.sqL (sqL_le e.F h)
    refine ⟨⟨_, v, hs, h1⟩, fun x H3 y => ?_⟩
    obtain ⟨rfl, y⟩ := y
    have := (y _ hs).symm.trans h1
    cases this
    exact ⟨g2, .refl, W, h2⟩
  done := fun i g2 s2 H2 st W hi => ⟨_, W.sqL (sqL_le st.le.F h), by
    have hi' : (ns.map D.int).length = i := hi
    rw [List.length_map] at hi' ⊢; exact Nat.le_of_eq hi'⟩
theorem goes_obj {a : Addr} {n k : Nat} (h : g.r[n]? = some a) : Goes K b g s H (Itl K a) (.objl n k) where
  item := fun i g2 s2 H2 d st W hi => by
    have e := st.le
    simp only [Src.at_] at hi
    split at hi
    · rename_i xs hx
      obtain ⟨a', vs, e1, e2, e3⟩ := W.objL hx
      rw [e.r _ _ h] at e1; cases e1
      obtain ⟨v, h1, h2⟩ := e3.get (i := i) hi
      refine ⟨⟨vs, v, .of e2, h1⟩, fun x H3 y => ?_⟩
      obtain ⟨rfl, y⟩ := y
      have := (y vs (.of e2)).symm.trans h1
      cases this
      exact ⟨g2, .refl, W, h2⟩
    · cases hi
  done := fun i g2 s2 H2 st W hi => by
    have e := st.le
    obtain ⟨xs, hx, hl⟩ := hi
    obtain ⟨a', vs, e1, e2, e3⟩ := W.objL hx
    rw [e.r _ _ h] at e1; cases e1
    exact ⟨vs, .of e2, by rw [e3.length]; exact hl⟩
theorem goes_rng {lo : Int} {n : Nat} {l : List D} (hl : l = (List.range n).map fun (i : Nat) => D.int (lo + (i : Int))) : Goes K b g s H (Itr lo n) (.vals l) where
  item := fun i g2 s2 H2 d st W hi => by
    have e := st.le
    subst hl
    simp only [Src.at_, List.getElem?_map, Option.map_eq_some_iff] at hi
    obtain ⟨j, hj, rfl⟩ := hi
    obtain ⟨h1, h2⟩ := List.getElem?_eq_some_iff.mp hj
    rw [List.getElem_range] at h2
    rw [List.length_range] at h1
    subst h2
    refine ⟨h1, fun x H3 y => ?_⟩
    obtain ⟨rfl, rfl⟩ := y
    exact ⟨g2, .refl, W, .int _⟩
  done := fun i g2 s2 H2 st W hi => by
    have e := st.le
    subst hl
    simp only [Src.stop, List.length_map, List.length_range] at hi
    exact Nat.le_of_eq hi
/-- a list or a tuple of plain data, what stands for it for ever -/
theorem seq_at {x : D} {v : V} {xs : List D} (r : Rep K g v x) (e : seqD x = some xs) : ∃ (k : Bool) (a : Addr) (vs : List V), v = .ref a ∧ RepL K g vs xs ∧ ∀ {g2 : Gh} {s2 : Sto} {H2 : Hp}, g.le g2 → Wf K g2 s2 H2 → FwR.SqB K k H2 a vs := by
  cases r with
  | tup h q => simp [seqD] at e; subst e; exact ⟨false, _, _, rfl, q, fun {g2 s2 H2} l W => .of (W.hT (l.F _ _ h))⟩
  | lst h q => simp [seqD] at e; subst e; exact ⟨true, _, _, rfl, q, fun {g2 s2 H2} l W => .of (W.hL (l.F _ _ h))⟩
  | _ => simp [seqD] at e
theorem sqB_inj' {k : Bool} {a : Addr} {xs : List V} {H2 : Hp} {P : List V → Prop} (h : FwR.SqB K k H2 a xs) (f : ∀ ys, FwR.SqB K k H2 a ys → P ys) : P xs := f xs h
theorem goes_zipB {k k' : Bool} {a c : Addr} {vs ws : List V} {ds es : List D} (h : ∀ {g2 : Gh} {s2 : Sto} {H2 : Hp}, g.le g2 → Wf K g2 s2 H2 → FwR.SqB K k H2 a vs) (r : RepL K g vs ds) (h' : ∀ {g2 : Gh} {s2 : Sto} {H2 : Hp}, g.le g2 → Wf K g2 s2 H2 → FwR.SqB K k' H2 c ws) (r' : RepL K g ws es) : Goes K b g s H (FwR.ItzB K k k' a c) (.vals (List.zipWith (fun x y => D.tup [x, y]) ds es)) where
  item := fun i g2 s2 H2 d st W hi => by
    have e := st.le
    simp only [Src.at_, List.getElem?_zipWith] at hi
    cases hd : ds[i]? with
    | none => rw [hd] at hi; cases hi
    | some x =>
      cases he : es[i]? with
      | none => rw [hd, he] at hi; cases hi
      | some y =>
        rw [hd, he] at hi; cases hi
        obtain ⟨v, h1, h2⟩ := (r.mono e).get (i := i) hd
        obtain ⟨w, k1, k2⟩ := (r'.mono e).get (i := i) he
        have hs := h e W
        have ks := h' e W
        refine ⟨⟨vs, ws, v, w, hs, ks, h1, k1⟩, fun z H3 q => ?_⟩
        obtain ⟨t, x', y', rfl, ht, rfl, q1, q2⟩ := q
        have q3 := (q1 vs hs).symm.trans h1
        cases q3
        have q4 := (q2 ws ks).symm.trans k1
        cases q4
        obtain ⟨S, W'⟩ := W.new (b := b) (o := .tup [v, w]) ht
        exact ⟨_, S, W', .tup (show upd g2.F t _ t = _ from upd_same) (.cons (h2.mono S.le) (.cons (k2.mono S.le) .nil))⟩
  done := fun i g2 s2 H2 st W hi => by
    have e := st.le
    have hi' : min ds.length es.length = i := by simpa [Src.stop] using hi
    have l1 := r.length
    have l2 := r'.length
    exact ⟨vs, ws, h e W, h' e W, by omega, by omega, by omega⟩
theorem numD_len : ∀ (l : List D) (k : Nat), (numD k l).length = l.length
  | [], _ => rfl
  | _ :: r, k => by rw [numD, List.length_cons, numD_len r, List.length_cons]
theorem numD_get : ∀ (l : List D) (k i : Nat), (numD k l)[i]? = (l[i]?).map fun d => D.tup [.int ((k + i : Nat) : Int), d]
  | [], _, _ => rfl
  | d :: r, k, 0 => by simp [numD]
  | d :: r, k, i + 1 => by
    rw [numD, List.getElem?_cons_succ, numD_get r (k + 1) i, List.getElem?_cons_succ]
    have : k + 1 + i = k + (i + 1) := by omega
    rw [this]
theorem goes_enum {k : Bool} {a : Addr} {vs : List V} {ds : List D} (h : ∀ {g2 : Gh} {s2 : Sto} {H2 : Hp}, g.le g2 → Wf K g2 s2 H2 → FwR.SqB K k H2 a vs) (r : RepL K g vs ds) : Goes K b g s H (FwR.IteB K k a) (.vals (numD 0 ds)) where
  item := fun i g2 s2 H2 d st W hi => by
    have e := st.le
    simp only [Src.at_, numD_get] at hi
    obtain ⟨x, hd, rfl⟩ := Option.map_eq_some_iff.mp hi
    obtain ⟨v, h1, h2⟩ := (r.mono e).get (i := i) hd
    have hs := h e W
    refine ⟨⟨vs, v, hs, h1⟩, fun z H3 q => ?_⟩
    obtain ⟨t, x', rfl, ht, rfl, q1⟩ := q
    have q3 := (q1 vs hs).symm.trans h1
    cases q3
    obtain ⟨S, W'⟩ := W.new (b := b) (o := .tup [.int (i : Nat), v]) ht
    have e0 : ((0 + i : Nat) : Int) = (i : Int) := by omega
    rw [e0]
    exact ⟨_, S, W', .tup (show upd g2.F t _ t = _ from upd_same) (.cons (.int _) (.cons (h2.mono S.le) .nil))⟩
  done := fun i g2 s2 H2 st W hi => by
    have e := st.le
    have hi' : ds.length = i := by simpa [Src.stop, numD_len] using hi
    exact ⟨vs, h e W, by rw [r.length]; exact hi'⟩

/-! what is left to go through -/
structure Rem (src : Src) (f : D → Sto → Option (Option D × Sto)) (R : Nat → Sto → Option (List D × Sto)) (k : Nat) : Prop where
  at_ : ∀ i s r, i ≤ k → R i s = some r → (i = k ∧ src.stop s i ∧ r = ([], s)) ∨ (i < k ∧ ∃ d, src.at_ s i = some d ∧ ∃ od s1 rest s2, f d s = some (od, s1) ∧ R (i + 1) s1 = some (rest, s2) ∧ r = (match od with | some x => x :: rest | none => rest, s2))
theorem rem_vals {f : D → Sto → Option (Option D × Sto)} {l : List D} : Rem (.vals l) f (fun i s => lcV f (l.drop i) s) l.length where
  at_ := fun i s r hi h => by
    by_cases e : i = l.length
    · subst e
      have h' : lcV f (l.drop l.length) s = some r := h
      rw [List.drop_length] at h'
      cases h'
      exact .inl ⟨rfl, rfl, rfl⟩
    · right
      have hl : i < l.length := by omega
      refine ⟨hl, l[i], List.getElem?_eq_getElem hl, ?_⟩
      have h' : lcV f (l.drop i) s = some r := h
      rw [List.drop_eq_getElem_cons hl] at h'
      simp only [lcV] at h'
      obtain ⟨⟨od, s1⟩, h1, h2⟩ := Option.bind_eq_some_iff.mp h'
      obtain ⟨⟨rest, s2⟩, h3, h4⟩ := Option.bind_eq_some_iff.mp h2
      cases h4
      exact ⟨od, s1, rest, s2, h1, h3, rfl⟩
theorem rem_obj {f : D → Sto → Option (Option D × Sto)} {n k : Nat} : Rem (.objl n k) f (fun i s => lcO n f (k - i) i s) k where
  at_ := fun i s r hi h => by
    have h' : lcO n f (k - i) i s = some r := h
    by_cases e : i = k
    · subst e
      rw [Nat.sub_self] at h'
      simp only [lcO] at h'
      split at h'
      · rename_i xs hx
        split at h'
        · cases h'; exact .inl ⟨rfl, ⟨xs, hx, by assumption⟩, rfl⟩
        · cases h'
      · cases h'
    · right
      obtain ⟨m, hm⟩ : ∃ m, k - i = m + 1 := ⟨k - i - 1, by omega⟩
      rw [hm] at h'
      simp only [lcO] at h'
      split at h'
      · rename_i xs hx
        split at h'
        · rename_i d hd
          obtain ⟨⟨od, s1⟩, h1, h2⟩ := Option.bind_eq_some_iff.mp h'
          obtain ⟨⟨rest, s2⟩, h3, h4⟩ := Option.bind_eq_some_iff.mp h2
          cases h4
          refine ⟨by omega, d, ?_, od, s1, rest, s2, h1, ?_, rfl⟩
          · simp only [Src.at_, hx]; exact hd
          · have : k - (i + 1) = m := by omega
            rw [this]; exact h3
        · cases h'
      · cases h'

/-! ### targets -/
mutual
theorem ok_G : ∀ (t : G) (d : D) (env e1 : En) (σ : L2.St) (v : V) (H : Hp) (g : Gh) (s : Sto), asgG t d env = some e1 → Wf K g s H → EnR K g env σ → Rep K g v d → ∀ Q : L2.St → Hp → Prop, (∀ σ', EnR K g e1 σ' → Q σ' H) → rdG K t v σ H Q
  | .name i, d, env, e1, σ, v, H, g, s, h, W, E, r, Q, q => by
    simp only [asgG, Option.some.injEq] at h
    subst h
    exact q _ (E.set r i)
  | .tup gs, d, env, e1, σ, v, H, g, s, h, W, E, r, Q, q => by
    cases r with
    | tup ha ra =>
      simp only [asgG] at h
      have hn := gs_len h
      exact ⟨_, _, rfl, .of (W.hT ha), by rw [ra.length]; exact hn, ok_Gs gs _ env e1 σ _ H g s h W E ra Q q⟩
    | _ => simp [asgG] at h
theorem ok_Gs : ∀ (t : Gs) (ds : List D) (env e1 : En) (σ : L2.St) (vs : List V) (H : Hp) (g : Gh) (s : Sto), asgGs t ds env = some e1 → Wf K g s H → EnR K g env σ → RepL K g vs ds → ∀ Q : L2.St → Hp → Prop, (∀ σ', EnR K g e1 σ' → Q σ' H) → rdGs K t vs σ H Q
  | .nil, [], env, e1, σ, vs, H, g, s, h, W, E, r, Q, q => by
    cases r
    simp only [asgGs, Option.some.injEq] at h
    subst h
    exact ⟨rfl, q _ E⟩
  | .nil, _ :: _, env, e1, σ, vs, H, g, s, h, W, E, r, Q, q => by simp [asgGs] at h
  | .cons t ts, [], env, e1, σ, vs, H, g, s, h, W, E, r, Q, q => by simp [asgGs] at h
  | .cons t ts, d :: ds, env, e1, σ, vs, H, g, s, h, W, E, r, Q, q => by
    cases r with
    | cons r1 r2 =>
      simp only [asgGs] at h
      obtain ⟨e2, h1, h2⟩ := Option.bind_eq_some_iff.mp h
      exact ⟨_, _, rfl, ok_G t d env e2 σ _ H g s h1 W E r1 _ fun σ' E' => ok_Gs ts ds e2 e1 σ' _ H g s h2 W E' r2 Q q⟩
theorem gs_len : ∀ {t : Gs} {ds : List D} {env e1 : En}, asgGs t ds env = some e1 → ds.length = t.n
  | .nil, [], _, _, _ => rfl
  | .nil, _ :: _, _, _, h => by simp [asgGs] at h
  | .cons _ _, [], _, _, h => by simp [asgGs] at h
  | .cons t ts, d :: ds, env, e1, h => by
    simp only [asgGs] at h
    obtain ⟨e2, h1, h2⟩ := Option.bind_eq_some_iff.mp h
    exact congrArg (· + 1) (gs_len h2)
end
/-- a comprehension's target forgets nothing of the frame's -/
theorem wipe_set {σ : L2.St} {i : Nat} {x : Option V} : ∀ {vs : List Nat}, i ∈ vs → wipe (σ.set i x) vs = wipe σ vs
  | [], h => by cases h
  | v :: vs, h => by
    unfold wipe
    by_cases e : v = i
    · subst e
      by_cases hi : v ∈ vs
      · rw [wipe_set hi]
      · rw [wipe_comm hi, List.set_set]
    · rw [wipe_set (by rcases List.mem_cons.mp h with h | h; exact absurd h.symm e; exact h)]
where
  wipe_comm {σ : L2.St} {i : Nat} {x : Option V} : ∀ {vs : List Nat}, i ∉ vs → wipe (σ.set i x) vs = (wipe σ vs).set i x
    | [], _ => rfl
    | v :: vs, h => by
      unfold wipe
      simp only [List.mem_cons, not_or] at h
      rw [wipe_comm h.2, List.set_comm _ _ h.1]
theorem wipe_sub {σ : L2.St} {vs : List Nat} : ∀ {us : List Nat}, (∀ i ∈ us, i ∈ vs) → wipe (wipe σ us) vs = wipe σ vs
  | [], _ => rfl
  | v :: us, h => by
    show wipe ((wipe σ us).set v none) vs = wipe σ vs
    rw [wipe_set (h v (List.mem_cons_self ..)), wipe_sub fun i hi => h i (List.mem_cons_of_mem _ hi)]
theorem wipe_idem {σ : L2.St} {vs : List Nat} : wipe (wipe σ vs) vs = wipe σ vs := wipe_sub fun _ h => h
mutual
theorem wipe_G : ∀ (t : G) (v : V) (σ : L2.St) (H : Hp) (own : List Nat) (Q : L2.St → Hp → Prop), (∀ i ∈ t.slots, i ∈ own) → rdG K t v σ H Q → rdG K t v σ H fun σ2 H2 => wipe σ2 own = wipe σ own ∧ Q σ2 H2
  | .name i, v, σ, H, own, Q, h, q => ⟨wipe_set (h i (by simp [G.slots])), q⟩
  | .tup gs, v, σ, H, own, Q, h, q => by
    obtain ⟨a, xs, rfl, h1, h2, q⟩ := q
    exact ⟨a, xs, rfl, h1, h2, wipe_Gs gs xs σ H own Q (by simpa [G.slots] using h) q⟩
theorem wipe_Gs : ∀ (t : Gs) (vs : List V) (σ : L2.St) (H : Hp) (own : List Nat) (Q : L2.St → Hp → Prop), (∀ i ∈ t.slots, i ∈ own) → rdGs K t vs σ H Q → rdGs K t vs σ H fun σ2 H2 => wipe σ2 own = wipe σ own ∧ Q σ2 H2
  | .nil, vs, σ, H, own, Q, h, q => ⟨q.1, rfl, q.2⟩
  | .cons t ts, vs, σ, H, own, Q, h, q => by
    obtain ⟨v, r, rfl, q⟩ := q
    simp only [Gs.slots, List.mem_append] at h
    refine ⟨v, r, rfl, mono_G t v σ H _ _ (wipe_G t v σ H own _ (fun i hi => h i (.inl hi)) q) fun σ2 H2 ⟨e, q2⟩ => ?_⟩
    exact mono_Gs ts r σ2 H2 _ _ (wipe_Gs ts r σ2 H2 own Q (fun i hi => h i (.inr hi)) q2) fun σ3 H3 ⟨e3, q3⟩ => ⟨e3.trans e, q3⟩
theorem mono_G : ∀ (t : G) (v : V) (σ : L2.St) (H : Hp) (Q Q' : L2.St → Hp → Prop), rdG K t v σ H Q → (∀ σ2 H2, Q σ2 H2 → Q' σ2 H2) → rdG K t v σ H Q'
  | .name i, v, σ, H, Q, Q', q, h => h _ _ q
  | .tup gs, v, σ, H, Q, Q', q, h => by
    obtain ⟨a, xs, rfl, h1, h2, q⟩ := q
    exact ⟨a, xs, rfl, h1, h2, mono_Gs gs xs σ H Q Q' q h⟩
theorem mono_Gs : ∀ (t : Gs) (vs : List V) (σ : L2.St) (H : Hp) (Q Q' : L2.St → Hp → Prop), rdGs K t vs σ H Q → (∀ σ2 H2, Q σ2 H2 → Q' σ2 H2) → rdGs K t vs σ H Q'
  | .nil, vs, σ, H, Q, Q', q, h => ⟨q.1, h _ _ q.2⟩
  | .cons t ts, vs, σ, H, Q, Q', q, h => by
    obtain ⟨v, r, rfl, q⟩ := q
    exact ⟨v, r, rfl, mono_G t v σ H _ _ q fun σ2 H2 q2 => mono_Gs ts r σ2 H2 Q Q' q2 h⟩
end
end
end Fw

/-! Fw, part F: what the evaluator says holds of the readings: all expressions. -/
namespace Fw
open PySem PySem.Spec PyProof.Rows L2

section
variable {K : PySem.W.Frag} {b : Nat} {env : En} {ta tb td : TE} {fa fb fd : Sto → Option (D × Sto)}

theorem ok_con {v : V} {d : D} (h : ∀ g, Rep K g v d) : OkE K b env (tC v) (fun s => some (d, s)) := fun g s σ H d' s' e W E Q q => by
  cases e; exact q.now W (h g)
theorem ok_two {r : R2} {f : Sto → D → D → Option D} (ha : OkE K b env ta fa) (hb : OkE K b env tb fb) (hr : OkR K b r f) : OkE K b env (tOp r ta tb) (fun s => (fa s).bind fun p => (fb p.2).bind fun q => (f q.2 p.1 q.1).map fun d => (d, q.2)) := fun g s σ H d s' e W E Q q => by
  obtain ⟨⟨x, s1⟩, e1, e⟩ := Option.bind_eq_some_iff.mp e
  obtain ⟨⟨y, s2⟩, e2, e⟩ := Option.bind_eq_some_iff.mp e
  obtain ⟨z, e3, e⟩ := Option.map_eq_some_iff.mp e
  cases e
  exact ha g s σ H x s1 e1 W E _ fun v g1 H1 S1 W1 r1 => hb g1 s1 σ H1 y s2 e2 W1 (E.mono S1.le) _ fun u g2 H2 S2 W2 r2 =>
    hr g2 _ H2 x y _ v u e3 W2 (r1.mono S2.le) r2 Q ((q.after W S1 W1).after W1 S2 W2)
theorem ok_tupE {t : TA} {f : Sto → Option (List D × Sto)} (h : OkA K b env t f) : OkE K b env (tTup t) (fun s => (f s).bind fun p => if p.1.length ≤ ZL then some (.tup p.1, p.2) else none) := fun g s σ H d s' e W E Q q => by
  obtain ⟨⟨ds, s1⟩, e1, e⟩ := Option.bind_eq_some_iff.mp e
  simp only at e
  split at e
  · cases e
    exact h g s σ H ds _ e1 W E _ fun vs g1 H1 S1 W1 r1 => ⟨by rw [r1.length]; exact szl (by assumption), fun p hp => (q.after W S1 W1).tup W1 r1 hp⟩
  · cases e
theorem ok_lstE {t : TA} {f : Sto → Option (List D × Sto)} (h : OkA K b env t f) : OkE K b env (tLst t) (fun s => (f s).bind fun p => if p.1.length ≤ ZL then some (.lst p.1, p.2) else none) := fun g s σ H d s' e W E Q q => by
  obtain ⟨⟨ds, s1⟩, e1, e⟩ := Option.bind_eq_some_iff.mp e
  simp only at e
  split at e
  · cases e
    exact h g s σ H ds _ e1 W E _ fun vs g1 H1 S1 W1 r1 => ⟨by rw [r1.length]; exact szl (by assumption), fun p hp => (q.after W S1 W1).lst W1 r1 hp⟩
  · cases e
theorem ok_newLE {t : TA} {f : Sto → Option (List D × Sto)} (h : OkA K b env t f) : OkE K b env (tLst t) (fun s => (f s).bind fun p => if p.1.length ≤ ZL then some (.obj p.2.length, p.2 ++ [some (.lst p.1)]) else none) := fun g s σ H d s' e W E Q q => by
  obtain ⟨⟨ds, s1⟩, e1, e⟩ := Option.bind_eq_some_iff.mp e
  simp only at e
  split at e
  · cases e
    exact h g s σ H ds _ e1 W E _ fun vs g1 H1 S1 W1 r1 => ⟨by rw [r1.length]; exact szl (by assumption), fun p hp => (q.after W S1 W1).newL W1 r1 hp⟩
  · cases e
theorem ok_chn {o o' : Cp} (ha : OkE K b env ta fa) (hb : OkE K b env tb fb) (hd : OkE K b env td fd) : OkE K b env (tChain (rCmp K o) (rCmp K o') ta tb td)
    (fun s => (fa s).bind fun p => (fb p.2).bind fun q => (evCmp o p.1 q.1).bind fun r => if r = true then (fd q.2).bind fun u => (evCmp o' q.1 u.1).map fun r' => (.bl r', u.2) else some (.bl false, q.2)) := fun g s σ H d s' e W E Q q => by
  obtain ⟨⟨x, s1⟩, e1, e⟩ := Option.bind_eq_some_iff.mp e
  obtain ⟨⟨y, s2⟩, e2, e⟩ := Option.bind_eq_some_iff.mp e
  obtain ⟨r, e3, e⟩ := Option.bind_eq_some_iff.mp e
  have e3 : evCmp o x y = some r := e3
  refine ha g s σ H x s1 e1 W E _ fun v g1 H1 S1 W1 r1 => hb g1 s1 σ H1 y s2 e2 W1 (E.mono S1.le) _ fun u g2 H2 S2 W2 r2 =>
    ok_cmp (K := K) (b := b) o g2 s2 H2 x y (.bl r) v u (congrArg (Option.map D.bl) e3) W2 (r1.mono S2.le) r2 _ fun z g3 H3 S3 W3 r3 => ?_
  cases r3
  refine ⟨r, rfl, ?_⟩
  have q3 := ((q.after W S1 W1).after W1 S2 W2).after W2 S3 W3
  cases r with
  | true =>
    rw [if_pos rfl] at e ⊢
    obtain ⟨⟨z, s4⟩, e4, e⟩ := Option.bind_eq_some_iff.mp e
    obtain ⟨r', e5, e⟩ := Option.map_eq_some_iff.mp e
    have e5 : evCmp o' y z = some r' := e5
    cases e
    exact hd g3 s2 σ H3 z _ e4 W3 (((E.mono S1.le).mono S2.le).mono S3.le) _ fun w g4 H4 S4 W4 r4 =>
      ok_cmp (K := K) (b := b) o' g4 _ H4 y z (.bl r') u w (congrArg (Option.map D.bl) e5) W4 ((r2.mono S3.le).mono S4.le) r4 Q (q3.after W3 S4 W4)
  | false =>
    rw [if_neg Bool.false_ne_true] at e ⊢
    cases e
    exact q3.now W3 (.bl false)
theorem ok_notE (ha : OkE K b env ta fa) : OkE K b env (tNotV ta) (fun s => (fa s).bind fun p => match p.1 with
    | .bl b => some (.bl (!b), p.2)
    | _ => none) := fun g s σ H d s' e W E Q q => by
  obtain ⟨⟨x, s1⟩, e1, e⟩ := Option.bind_eq_some_iff.mp e
  refine ha g s σ H x s1 e1 W E _ fun v g1 H1 S1 W1 r1 => ?_
  cases r1 <;> simp only [reduceCtorEq] at e
  cases e
  exact ⟨_, rfl, (q.after W S1 W1).now W1 (.bl _)⟩
theorem ok_andE (ha : OkE K b env ta fa) (hb : OkE K b env tb fb) : OkE K b env (tAndV ta tb) (fun s => (fa s).bind fun p => match p.1 with
    | .bl true => fb p.2
    | .bl false => some (.bl false, p.2)
    | _ => none) := fun g s σ H d s' e W E Q q => by
  obtain ⟨⟨x, s1⟩, e1, e⟩ := Option.bind_eq_some_iff.mp e
  refine ha g s σ H x s1 e1 W E _ fun v g1 H1 S1 W1 r1 => ?_
  cases r1 with
  | bl c =>
    refine ⟨c, rfl, ?_⟩
    cases c with
    | true =>
      rw [if_pos rfl]
      exact hb g1 s1 σ H1 d s' e W1 (E.mono S1.le) Q (q.after W S1 W1)
    | false =>
      rw [if_neg Bool.false_ne_true]
      cases e
      exact (q.after W S1 W1).now W1 (.bl _)
  | _ => simp at e
theorem ok_orE (ha : OkE K b env ta fa) (hb : OkE K b env tb fb) : OkE K b env (tOrV ta tb) (fun s => (fa s).bind fun p => match p.1 with
    | .bl true => some (.bl true, p.2)
    | .bl false => fb p.2
    | _ => none) := fun g s σ H d s' e W E Q q => by
  obtain ⟨⟨x, s1⟩, e1, e⟩ := Option.bind_eq_some_iff.mp e
  refine ha g s σ H x s1 e1 W E _ fun v g1 H1 S1 W1 r1 => ?_
  cases r1 with
  | bl c =>
    refine ⟨c, rfl, ?_⟩
    cases c with
    | false =>
      rw [if_neg Bool.false_ne_true]
      exact hb g1 s1 σ H1 d s' e W1 (E.mono S1.le) Q (q.after W S1 W1)
    | true =>
      rw [if_pos rfl]
      cases e
      exact (q.after W S1 W1).now W1 (.bl _)
  | _ => simp at e
theorem ok_ife {t : TT} {ft : Sto → Option (Bool × Sto)} (ht : OkT K b env t ft) (ha : OkE K b env ta fa) (hb : OkE K b env tb fb) : OkE K b env (tIf t ta tb) (fun s => (ft s).bind fun p => match p.1 with
    | true => fa p.2
    | false => fb p.2) := fun g s σ H d s' e W E Q q => by
  obtain ⟨⟨x, s1⟩, e1, e⟩ := Option.bind_eq_some_iff.mp e
  refine ht g s σ H x s1 e1 W E _ fun g1 H1 S1 W1 => ?_
  cases x with
  | true =>
    rw [if_pos rfl]
    exact ha g1 s1 σ H1 d s' e W1 (E.mono S1.le) Q (q.after W S1 W1)
  | false =>
    rw [if_neg Bool.false_ne_true]
    exact hb g1 s1 σ H1 d s' e W1 (E.mono S1.le) Q (q.after W S1 W1)
theorem ok_dget (ha : OkE K b env ta fa) (hb : OkE K b env tb fb) : OkE K b env (tDGet ta tb) (fun s => (fa s).bind fun p => (fb p.2).bind fun q => match dLook q.2 p.1 q.1 with
    | some (some d) => some (d, q.2)
    | _ => none) := fun g s σ H d s' e W E Q q => by
  obtain ⟨⟨x, s1⟩, e1, e⟩ := Option.bind_eq_some_iff.mp e
  obtain ⟨⟨y, s2⟩, e2, e⟩ := Option.bind_eq_some_iff.mp e
  refine ha g s σ H x s1 e1 W E _ fun v g1 H1 S1 W1 r1 => hb g1 s1 σ H1 y s2 e2 W1 (E.mono S1.le) _ fun u g2 H2 S2 W2 r2 => ?_
  simp only at e
  split at e
  · rename_i z hz
    cases e
    obtain ⟨a, w, rfl, h1, h2, _⟩ := ok_look hz W2 (r1.mono S2.le) r2
    obtain ⟨z', rfl, rz⟩ := h2 _ rfl
    exact ⟨a, z', rfl, h1, ((q.after W S1 W1).after W1 S2 W2).now W2 rz⟩
  · cases e
theorem ok_dnin (ha : OkE K b env ta fa) (hb : OkE K b env tb fb) : OkE K b env (tDNotIn ta tb) (fun s => (fa s).bind fun p => (fb p.2).bind fun q => (dLook q.2 q.1 p.1).map fun o => (.bl (!o.isSome), q.2)) := fun g s σ H d s' e W E Q q => by
  obtain ⟨⟨x, s1⟩, e1, e⟩ := Option.bind_eq_some_iff.mp e
  obtain ⟨⟨y, s2⟩, e2, e⟩ := Option.bind_eq_some_iff.mp e
  refine ha g s σ H x s1 e1 W E _ fun v g1 H1 S1 W1 r1 => hb g1 s1 σ H1 y s2 e2 W1 (E.mono S1.le) _ fun u g2 H2 S2 W2 r2 => ?_
  obtain ⟨o, hz, e⟩ := Option.map_eq_some_iff.mp e
  cases e
  obtain ⟨a, w, rfl, h1, h2, h3⟩ := ok_look hz W2 r2 (r1.mono S2.le)
  refine ⟨a, w, rfl, h1, ?_⟩
  have ew : w.isSome = o.isSome := by
    cases o with
    | none => rw [h3 rfl]; rfl
    | some z => obtain ⟨z', rfl, _⟩ := h2 z rfl; rfl
  rw [ew]
  exact ((q.after W S1 W1).after W1 S2 W2).now W2 (.bl _)
theorem ok_din (ha : OkE K b env ta fa) (hb : OkE K b env tb fb) : OkE K b env (tDIn ta tb) (fun s => (fa s).bind fun p => (fb p.2).bind fun q => (dLook q.2 q.1 p.1).map fun o => (.bl o.isSome, q.2)) := fun g s σ H d s' e W E Q q => by
  obtain ⟨⟨x, s1⟩, e1, e⟩ := Option.bind_eq_some_iff.mp e
  obtain ⟨⟨y, s2⟩, e2, e⟩ := Option.bind_eq_some_iff.mp e
  refine ha g s σ H x s1 e1 W E _ fun v g1 H1 S1 W1 r1 => hb g1 s1 σ H1 y s2 e2 W1 (E.mono S1.le) _ fun u g2 H2 S2 W2 r2 => ?_
  obtain ⟨o, hz, e⟩ := Option.map_eq_some_iff.mp e
  cases e
  obtain ⟨a, w, rfl, h1, h2, h3⟩ := ok_look hz W2 r2 (r1.mono S2.le)
  refine ⟨a, w, rfl, h1, ?_⟩
  have ew : w.isSome = o.isSome := by
    cases o with
    | none => rw [h3 rfl]; rfl
    | some z => obtain ⟨z', rfl, _⟩ := h2 z rfl; rfl
  rw [ew]
  exact ((q.after W S1 W1).after W1 S2 W2).now W2 (.bl _)
theorem ok_slcE {tl th : TO} {fl fh : Sto → Option (Option Int × Sto)} (ha : OkE K b env ta fa) (hl : OkO K b env tl fl) (hh : OkO K b env th fh) : OkE K b env (tSl (rSlAll K) ta tl th)
    (fun s => (fa s).bind fun p => (fl p.2).bind fun q => (fh q.2).bind fun r => (slcD p.1 q.1 r.1).map fun d => (d, r.2)) := fun g s σ H d s' e W E Q q => by
  obtain ⟨⟨x, s1⟩, e1, e⟩ := Option.bind_eq_some_iff.mp e
  obtain ⟨⟨lo, s2⟩, e2, e⟩ := Option.bind_eq_some_iff.mp e
  obtain ⟨⟨hi, s3⟩, e3, e⟩ := Option.bind_eq_some_iff.mp e
  obtain ⟨z, hz, e⟩ := Option.map_eq_some_iff.mp e
  cases e
  exact ha g s σ H x s1 e1 W E _ fun v g1 H1 S1 W1 r1 => hl g1 s1 σ H1 lo s2 e2 W1 (E.mono S1.le) _ fun g2 H2 S2 W2 => hh g2 s2 σ H2 hi _ e3 W2 ((E.mono S1.le).mono S2.le) _ fun g3 H3 S3 W3 =>
    ok_slc hz W3 ((r1.mono S2.le).mono S3.le) (((q.after W S1 W1).after W1 S2 W2).after W2 S3 W3)

/-- a call -/
theorem RepM.free {κ : Type} {F : Hp} {r r' : List Addr} : ∀ {a : List (κ × V)} {c : List (κ × D)}, (∀ p ∈ c, p.2.cl = true) → RepM K ⟨F, r⟩ a c → RepM K ⟨F, r'⟩ a c
  | _, _, _, .nil => .nil
  | _, _, h, .cons x y => .cons (Rep.free (h _ (List.mem_cons_self ..)) x) (RepM.free (fun p hp => h p (List.mem_cons_of_mem _ hp)) y)
theorem clF_all : ∀ {fs : List (Str × D)}, clF fs = true → ∀ p ∈ fs, p.2.cl = true
  | [], _, p, h => by cases h
  | q :: fs, c, p, h => by
    simp only [clF, Bool.and_eq_true] at c
    rcases List.mem_cons.mp h with rfl | h
    · exact c.1
    · exact clF_all c.2 p h
theorem PostR.after {g g1 : Gh} {s s1 s' : Sto} {H H1 : Hp} {b : Nat} {r : Rv} {Q : VK} {E : XK} (W : Wf K g s H) (S : Step b g s H g1 s1 H1) (W1 : Wf K g1 s1 H1) (q : PostR K b g s H r s' Q E) : PostR K b g1 s1 H1 r s' Q E := by
  cases r with
  | ok d => exact fun v g2 H2 S2 W2 r => q v g2 H2 (S.trans W W1 S2) W2 r
  | ex c fs => exact fun g2 H2 dd S2 W2 r => q g2 H2 dd (S.trans W W1 S2) W2 r
theorem run_spX {C : Cc} {n i : Nat} {p : Bool} {ds : List D} {vs : List V} {g : Gh} {s s' : Sto} {H : Hp} {r : Rv} {b : Nat} (hA : ∀ ds s r, C.fx i ds s = some r → ds.length = n) (h : C.runX p i ds s = some (r, s')) (W : Wf K g s H) (rl : RepL K g vs ds) {Q : VK} {E : XK} (q : PostR K b g s H r s' Q E) : SpX K n (C.fx i) vs H Q E := by
  cases p with
  | true =>
    simp only [Cc.runX] at h
    split at h
    · rename_i hc
      split at h
      · rename_i d1 s1 hd
        split at h
        · rename_i hcl
          cases h
          refine ⟨by rw [rl.length]; exact hA _ _ _ hd, ⟨g.F, []⟩, ds, [], _, s1, RepL.free (r := g.r) hc rl, W.noObj, hd, ?_⟩
          cases r with
          | ok d =>
            intro v g2 H2 S2 W2 r2
            obtain ⟨S3, W3⟩ := W.pure (b := b) S2 W2
            exact q v _ H2 S3 W3 (Rep.free (r := g2.r) hcl r2)
          | ex c fs =>
            intro g2 H2 dd S2 W2 r2
            obtain ⟨S3, W3⟩ := W.pure (b := b) S2 W2
            obtain ⟨vs', e1, e2⟩ := r2
            exact q _ H2 dd S3 W3 ⟨vs', e1, RepM.free (r := g2.r) (clF_all hcl) e2⟩
        · cases h
      · cases h
    · cases h
  | false =>
    simp only [Cc.runX] at h
    have w : ∀ {g2 : Gh} {H2 : Hp}, Step s.length g s H g2 s' H2 → Step b g s H g2 s' H2 := fun {g2 H2} S2 => ⟨S2.le, S2.keep, S2.dom, S2.nt, fun a e f => by
      rcases S2.fresh a e f with z | ⟨n, hn, z⟩
      · exact .inl z
      · exact absurd (W.r_lt z) (by omega), S2.own, S2.lm, S2.grow⟩
    refine ⟨by rw [rl.length]; exact hA _ _ _ h, g, ds, s, r, s', rl, W, h, ?_⟩
    cases r with
    | ok d => exact fun v g2 H2 S2 W2 r2 => q v g2 H2 (w S2) W2 r2
    | ex c fs => exact fun g2 H2 dd S2 W2 r2 => q g2 H2 dd (w S2) W2 r2
theorem fn_fx {C : Cc} {i : Nat} {ds : List D} {s s' : Sto} {d : D} (h : C.fn i ds s = some (d, s')) : C.fx i ds s = some (.ok d, s') := by
  unfold Cc.fn Rv.val at h
  split at h
  · rename_i d1 s1 e
    cases h; exact e
  · cases h
theorem run_runX {C : Cc} {i : Nat} {p : Bool} {ds : List D} {s s' : Sto} {d : D} (h : C.run p i ds s = some (d, s')) : C.runX p i ds s = some (.ok d, s') := by
  cases p with
  | true =>
    simp only [Cc.run] at h
    split at h
    · rename_i hc
      split at h
      · rename_i d1 s1 hd
        split at h
        · rename_i hcl
          cases h
          simp only [Cc.runX, hc, if_true, fn_fx hd]
          rw [if_pos (show Rv.cl (.ok d) = true from hcl)]
        · cases h
      · cases h
    · cases h
  | false => exact fn_fx h
theorem run_sp {C : Cc} {n i : Nat} {p : Bool} {ds : List D} {vs : List V} {g : Gh} {s s' : Sto} {H : Hp} {d : D} {b : Nat} {E : XK} (hA : ∀ ds s r, C.fx i ds s = some r → ds.length = n) (h : C.run p i ds s = some (d, s')) (W : Wf K g s H) (r : RepL K g vs ds) {Q : VK} (q : Post K b g s H d s' Q) : SpX K n (C.fx i) vs H Q E :=
  run_spX (r := .ok d) hA (run_runX h) W r q
theorem perm_rep {g : Gh} {n : Nat} {perm : List Nat} {vs zs : List V} {ds es : List D} (r : RepL K g vs ds) (r' : RepL K g zs es) : RepL K g (permL .non n perm vs zs) (permL .non n perm ds es) := by
  unfold permL
  rw [r.length, r'.length]
  by_cases hc : ds.length = n ∧ n + es.length = perm.length
  case neg => rw [if_neg hc, if_neg hc]; exact .nil
  case pos =>
  rw [if_pos hc, if_pos hc]
  clear hc
  induction perm with
  | nil => exact .nil
  | cons j t ih =>
    refine .cons ?_ ih
    have ra := r.append r'
    cases e : (ds ++ es)[j]? with
    | none =>
      have e2 : (vs ++ zs)[j]? = none := by
        rw [List.getElem?_eq_none_iff] at e ⊢
        rw [ra.length]; exact e
      show Rep K g ((vs ++ zs).getD j .non) ((ds ++ es).getD j .non)
      rw [List.getD_eq_getElem?_getD, List.getD_eq_getElem?_getD, e, e2]; exact .non
    | some d =>
      obtain ⟨v, h1, h2⟩ := ra.get e
      show Rep K g ((vs ++ zs).getD j .non) ((ds ++ es).getD j .non)
      rw [List.getD_eq_getElem?_getD, List.getD_eq_getElem?_getD, e, h1]; exact h2

theorem ok_b1E {f : B1} (ha : OkE K b env ta fa) : OkE K b env (tCB (rB1 K f) (tCons ta tNil)) (fun s => (fa s).bind fun p => (evB1 p.2 f p.1).map fun d => (d, p.2)) := fun g s σ H d s' e W E Q q => by
  obtain ⟨⟨x, s1⟩, e1, e⟩ := Option.bind_eq_some_iff.mp e
  obtain ⟨z, hz, e⟩ := Option.map_eq_some_iff.mp e
  cases e
  exact ha g s σ H x _ e1 W E _ fun v g1 H1 S1 W1 r1 => ok_b1 hz W1 r1 (q.after W S1 W1)
theorem ok_newLst (ha : OkE K b env ta fa) : OkE K b env (tCB (rB1 K .lst) (tCons ta tNil)) (fun s => (fa s).bind fun p => (listD p.2 p.1).map fun ds => (.obj p.2.length, p.2 ++ [some (.lst ds)])) := fun g s σ H d s' e W E Q q => by
  obtain ⟨⟨x, s1⟩, e1, e⟩ := Option.bind_eq_some_iff.mp e
  obtain ⟨ds, hz, e⟩ := Option.map_eq_some_iff.mp e
  cases e
  refine ha g s σ H x _ e1 W E _ fun v g1 H1 S1 W1 r1 => ?_
  obtain ⟨a, vs, rfl, r, c⟩ := ok_seq hz W1 r1
  exact ⟨a, vs, rfl, c.imp id (·.1), fun l hl => (q.after W S1 W1).newL W1 r hl⟩
theorem ok_tupRg (ha : OkE K b env ta fa) : OkE K b env (tTupRg (tRg1 ta)) (fun s => (fa s).bind fun p => match p.1 with
    | .int n => if 0 ≤ n ∧ n ≤ ZL then some (.tup (rgD n), p.2) else none
    | _ => none) := fun g s σ H d s' e W E Q q => by
  obtain ⟨⟨x, s1⟩, e1, e⟩ := Option.bind_eq_some_iff.mp e
  refine ha g s σ H x _ e1 W E _ fun v g1 H1 S1 W1 r1 => ?_
  cases r1 with
  | int n =>
    simp only at e
    split at e
    · rename_i hn
      cases e
      have hZ : (ZL : Nat) = 1000000 := rfl
      refine ⟨n, rfl, ⟨by omega, by omega, by omega, by have := hn.2; omega, by have := hn.2; omega⟩, fun p hp => (q.after W S1 W1).tup W1 ?_ hp⟩
      unfold rgV rgD
      rw [Int.sub_zero]
      have : ∀ l : List Nat, RepL K g1 (l.map fun (i : Nat) => V.int (0 + (i : Int))) (l.map fun (i : Nat) => D.int (i : Int)) := fun l => by
        induction l with
        | nil => exact .nil
        | cons i t ih => rw [List.map_cons, List.map_cons, Int.zero_add]; exact .cons (.int _) ih
      exact this _
    · cases e
  | _ => simp at e
theorem ok_lstRg (ha : OkE K b env ta fa) : OkE K b env (tLstRg (tRg1 ta)) (fun s => (fa s).bind fun p => match p.1 with
    | .int n => if 0 ≤ n ∧ n ≤ ZL then some (.lst (rgD n), p.2) else none
    | _ => none) := fun g s σ H d s' e W E Q q => by
  obtain ⟨⟨x, s1⟩, e1, e⟩ := Option.bind_eq_some_iff.mp e
  refine ha g s σ H x _ e1 W E _ fun v g1 H1 S1 W1 r1 => ?_
  cases r1 with
  | int n =>
    simp only at e
    split at e
    · rename_i hn
      cases e
      have hZ : (ZL : Nat) = 1000000 := rfl
      refine ⟨n, rfl, ⟨by omega, by omega, by omega, by have := hn.2; omega, by have := hn.2; omega⟩, fun p hp => (q.after W S1 W1).lst W1 ?_ hp⟩
      unfold rgV rgD
      rw [Int.sub_zero]
      have : ∀ l : List Nat, RepL K g1 (l.map fun (i : Nat) => V.int (0 + (i : Int))) (l.map fun (i : Nat) => D.int (i : Int)) := fun l => by
        induction l with
        | nil => exact .nil
        | cons i t ih => rw [List.map_cons, List.map_cons, Int.zero_add]; exact .cons (.int _) ih
      exact this _
    · cases e
  | _ => simp at e
theorem ok_newLstRg (ha : OkE K b env ta fa) : OkE K b env (tLstRg (tRg1 ta)) (fun s => (fa s).bind fun p => match p.1 with
    | .int n => if 0 ≤ n ∧ n ≤ ZL then some (.obj p.2.length, p.2 ++ [some (.lst (rgD n))]) else none
    | _ => none) := fun g s σ H d s' e W E Q q => by
  obtain ⟨⟨x, s1⟩, e1, e⟩ := Option.bind_eq_some_iff.mp e
  refine ha g s σ H x _ e1 W E _ fun v g1 H1 S1 W1 r1 => ?_
  cases r1 with
  | int n =>
    simp only at e
    split at e
    · rename_i hn
      cases e
      have hZ : (ZL : Nat) = 1000000 := rfl
      refine ⟨n, rfl, ⟨by omega, by omega, by omega, by have := hn.2; omega, by have := hn.2; omega⟩, fun p hp => (q.after W S1 W1).newL W1 ?_ hp⟩
      unfold rgV rgD
      rw [Int.sub_zero]
      have : ∀ l : List Nat, RepL K g1 (l.map fun (i : Nat) => V.int (0 + (i : Int))) (l.map fun (i : Nat) => D.int (i : Int)) := fun l => by
        induction l with
        | nil => exact .nil
        | cons i t ih => rw [List.map_cons, List.map_cons, Int.zero_add]; exact .cons (.int _) ih
      exact this _
    · cases e
  | _ => simp at e
theorem ok_max2 (ha : OkE K b env ta fa) (hb : OkE K b env tb fb) : OkE K b env (tCB (fun xs H Q => ∃ i j, xs = [.int i, .int j] ∧ Q (.int (if j > i then j else i)) H) (tCons ta (tCons tb tNil))) (fun s => (fa s).bind fun p => (fb p.2).bind fun q => match p.1, q.1 with
    | .int i, .int j => some (.int (if j > i then j else i), q.2)
    | _, _ => none) := fun g s σ H d s' e W E Q q => by
  obtain ⟨⟨x, s1⟩, e1, e⟩ := Option.bind_eq_some_iff.mp e
  obtain ⟨⟨y, s2⟩, e2, e⟩ := Option.bind_eq_some_iff.mp e
  refine ha g s σ H x s1 e1 W E _ fun v g1 H1 S1 W1 r1 => hb g1 s1 σ H1 y s2 e2 W1 (E.mono S1.le) _ fun u g2 H2 S2 W2 r2 => ?_
  cases r1 with
  | int i =>
    cases r2 with
    | int j => cases e; exact ⟨i, j, rfl, ((q.after W S1 W1).after W1 S2 W2).now W2 (.int _)⟩
    | _ => simp at e
  | _ => simp at e
theorem ok_isiE {c : Ty} (ha : OkE K b env ta fa) : OkE K b env (tCB (rIsi K) (tCons ta (tCons (tC (.ty (tyN c))) tNil))) (fun s => (fa s).bind fun p => (isID p.2 p.1 c).map fun b => (.bl b, p.2)) := fun g s σ H d s' e W E Q q => by
  obtain ⟨⟨x, s1⟩, e1, e⟩ := Option.bind_eq_some_iff.mp e
  obtain ⟨z, hz, e⟩ := Option.map_eq_some_iff.mp e
  cases e
  exact ha g s σ H x _ e1 W E _ fun v g1 H1 S1 W1 r1 => ok_isi hz W1 r1 ((q.after W S1 W1).now W1 (.bl _))
theorem ok_join (ha : OkE K b env ta fa) (hb : OkE K b env tb fb) : OkE K b env (tM1 (fun x xs H Q => ∃ a p, ∃ ys : List Str, x = .str a ∧ xs = [.ref p] ∧ (SqL K H p (ys.map V.str) ∨ SqT K H p (ys.map V.str)) ∧ (ys.map (·.length)).sum + ys.length * a.length ≤ 16777216 ∧ Q (.str (Txt.join a ys)) H) ta tb)
    (fun s => (fa s).bind fun p => (fb p.2).bind fun q => match p.1, q.1 with
    | .str x, .lst ds => (strsD ds).bind fun ys => if (ys.map (·.length)).sum + ys.length * x.length ≤ ZL then some (.str (Txt.join x ys), q.2) else none
    | _, _ => none) := fun g s σ H d s' e W E Q q => by
  obtain ⟨⟨x, s1⟩, e1, e⟩ := Option.bind_eq_some_iff.mp e
  obtain ⟨⟨y, s2⟩, e2, e⟩ := Option.bind_eq_some_iff.mp e
  refine ha g s σ H x s1 e1 W E _ fun v g1 H1 S1 W1 r1 => ?_
  cases r1 with
  | str z =>
    refine ⟨⟨z, rfl⟩, hb g1 s1 σ H1 y s2 e2 W1 (E.mono S1.le) _ fun u g2 H2 S2 W2 r2 => ?_⟩
    cases r2 with
    | lst hl rl =>
      simp only at e
      obtain ⟨ys, hy, e⟩ := Option.bind_eq_some_iff.mp e
      split at e
      · rename_i hz
        cases e
        have := rl.strs hy
        subst this
        have hZ : (ZL : Nat) = 1000000 := rfl
        exact ⟨z, _, ys, rfl, rfl, .inl (.of (W2.hL hl)), by omega, ((q.after W S1 W1).after W1 S2 W2).now W2 (.str _)⟩
      · cases e
    | _ => simp at e
  | _ => simp at e
theorem ok_pop (ha : OkE K b env ta fa) : OkE K b env (tBM0 K "list" rPop ta) (fun s => (fa s).bind fun p => match p.1 with
    | .obj n => match getO p.2 n with
      | some (.lst xs) => match xs[xs.length - 1]? with
        | some d => some (d, setO p.2 n (some (.lst xs.dropLast)))
        | none => none
      | _ => none
    | _ => none) := fun g s σ H d s' e W E Q q => by
  obtain ⟨⟨x, s1⟩, e1, e⟩ := Option.bind_eq_some_iff.mp e
  refine ha g s σ H x s1 e1 W E _ fun v g1 H1 S1 W1 r1 => ?_
  simp only at e
  split at e
  · split at e
    · rename_i xs hx
      split at e
      · rename_i y hy
        cases e
        obtain ⟨a, vs, h1, h2, h3⟩ := W1.objL hx
        have := r1.at_ h1
        subst this
        obtain ⟨w, k1, k2⟩ := h3.get hy
        refine ⟨.inl ⟨rfl, _, .of h2⟩, a, vs, w, rfl, rfl, h2, by rw [h3.length]; exact k1, ?_⟩
        exact (q.after W S1 W1).write W1 hx rfl h1 (o := .lst vs.dropLast) (q := .lst xs.dropLast) h3.dropLast k2
      · cases e
    · cases e
  · cases e
theorem ok_popAt (ha : OkE K b env ta fa) (hb : OkE K b env tb fb) : OkE K b env (tBM K "list" rPopAt ta (tCons tb tNil)) (fun s => (fa s).bind fun p => (fb p.2).bind fun q => match p.1, q.1 with
    | .obj n, .int i => match getO q.2 n with
      | some (.lst xs) => if 0 ≤ i ∧ i < 2 ^ 63 then match xs[i.toNat]? with
          | some d => match getO p.2 n with
            | some (.lst _) => some (d, setO q.2 n (some (.lst (xs.eraseIdx i.toNat))))
            | _ => none
          | none => none
        else none
      | _ => none
    | _, _ => none) := fun g s σ H d s' e W E Q q => by
  obtain ⟨⟨x, s1⟩, e1, e⟩ := Option.bind_eq_some_iff.mp e
  obtain ⟨⟨y, s2⟩, e2, e⟩ := Option.bind_eq_some_iff.mp e
  refine ha g s σ H x s1 e1 W E _ fun v g1 H1 S1 W1 r1 => ?_
  simp only at e
  split at e
  · split at e
    · rename_i xs hx
      split at e
      · rename_i hi
        split at e
        · rename_i z hz
          split at e
          · rename_i x0 hx0
            cases e
            obtain ⟨a0, vs0, h01, h02, h03⟩ := W1.objL hx0
            have := r1.at_ h01
            subst this
            refine ⟨.inl ⟨rfl, _, .of h02⟩, hb g1 s1 σ H1 _ _ e2 W1 (E.mono S1.le) _ fun u g2 H2 S2 W2 r2 => ?_⟩
            obtain ⟨a, vs, h1, h2, h3⟩ := W2.objL hx
            rw [S2.le.r _ _ h01] at h1; cases h1
            cases r2
            obtain ⟨w, k1, k2⟩ := h3.get hz
            obtain ⟨hl, _⟩ := List.getElem?_eq_some_iff.mp hz
            refine ⟨_, vs, _, _, w, rfl, rfl, h2, by omega, hi.2, ?_, k1, ?_⟩
            · rw [h3.length]
              exact PySem.StrLaws.seqIndex_nonneg hi.1 (by omega)
            · exact ((q.after W S1 W1).after W1 S2 W2).write W2 hx rfl (S2.le.r _ _ h01) (o := .lst (vs.eraseIdx _)) (q := .lst (xs.eraseIdx _)) (h3.eraseIdx _) k2
          · cases e
        · cases e
      · cases e
    · cases e
  · cases e
theorem ok_app (ha : OkE K b env ta fa) (hb : OkE K b env tb fb) : OkE K b env (tBM K "list" rAppend ta (tCons tb tNil)) (fun s => (fa s).bind fun p => (fb p.2).bind fun q => match p.1 with
    | .obj n => match getO p.2 n, getO q.2 n with
      | some (.lst _), some (.lst xs) => if xs.length < ZL then some (.non, setO q.2 n (some (.lst (xs ++ [q.1])))) else none
      | _, _ => none
    | _ => none) := fun g s σ H d s' e W E Q q => by
  obtain ⟨⟨x, s1⟩, e1, e⟩ := Option.bind_eq_some_iff.mp e
  obtain ⟨⟨y, s2⟩, e2, e⟩ := Option.bind_eq_some_iff.mp e
  refine ha g s σ H x s1 e1 W E _ fun v g1 H1 S1 W1 r1 => ?_
  simp only at e
  split at e
  · split at e
    · rename_i x0 xs hx0 hx
      split at e
      · cases e
        obtain ⟨a0, vs0, h01, h02, h03⟩ := W1.objL hx0
        have := r1.at_ h01
        subst this
        refine ⟨.inl ⟨rfl, _, .of h02⟩, hb g1 s1 σ H1 _ _ e2 W1 (E.mono S1.le) _ fun u g2 H2 S2 W2 r2 => ?_⟩
        obtain ⟨a, vs, h1, h2, h3⟩ := W2.objL hx
        rw [S2.le.r _ _ h01] at h1; cases h1
        refine ⟨_, vs, u, rfl, rfl, h2, by rw [h3.length]; exact szl' (by assumption), ?_⟩
        exact ((q.after W S1 W1).after W1 S2 W2).write W2 hx rfl (S2.le.r _ _ h01) (o := .lst (vs ++ [u])) (q := .lst (xs ++ [y])) (h3.append (.cons r2 .nil)) .non
      · cases e
    · cases e
  · cases e
theorem ok_ext (ha : OkE K b env ta fa) (hb : OkE K b env tb fb) : OkE K b env (tBM K "list" rExtend ta (tCons tb tNil)) (fun s => (fa s).bind fun p => (fb p.2).bind fun q => match p.1, q.1 with
    | .obj n, .lst ys => match getO p.2 n, getO q.2 n with
      | some (.lst _), some (.lst xs) => if xs.length + ys.length ≤ ZL then some (.non, setO q.2 n (some (.lst (xs ++ ys)))) else none
      | _, _ => none
    | _, _ => none) := fun g s σ H d s' e W E Q q => by
  obtain ⟨⟨x, s1⟩, e1, e⟩ := Option.bind_eq_some_iff.mp e
  obtain ⟨⟨y, s2⟩, e2, e⟩ := Option.bind_eq_some_iff.mp e
  refine ha g s σ H x s1 e1 W E _ fun v g1 H1 S1 W1 r1 => ?_
  simp only at e
  split at e
  · split at e
    · rename_i x0 xs hx0 hx
      split at e
      · cases e
        obtain ⟨a0, vs0, h01, h02, h03⟩ := W1.objL hx0
        have := r1.at_ h01
        subst this
        refine ⟨.inl ⟨rfl, _, .of h02⟩, hb g1 s1 σ H1 _ _ e2 W1 (E.mono S1.le) _ fun u g2 H2 S2 W2 r2 => ?_⟩
        obtain ⟨a, vs, h1, h2, h3⟩ := W2.objL hx
        rw [S2.le.r _ _ h01] at h1; cases h1
        cases r2 with
        | lst hl rl =>
          refine ⟨_, _, vs, _, rfl, rfl, h2, W2.hL hl, by rw [h3.length, rl.length]; exact szl (by assumption), ?_⟩
          exact ((q.after W S1 W1).after W1 S2 W2).write W2 hx rfl (S2.le.r _ _ h01) (o := .lst (vs ++ _)) (q := .lst (xs ++ _)) (h3.append rl) .non
      · cases e
    · cases e
  · cases e
end
end Fw

/-! Fw, part G: sorted, comprehensions, and all expressions together. -/
namespace Fw
open PySem PySem.Spec PyProof.Rows L2

section
variable {K : PySem.W.Frag} {b : Nat} {env : En} {ta tb td : TE} {fa fb fd : Sto → Option (D × Sto)}

theorem keys_len : ∀ {xs : List D} {ks : List (Int × D)}, keysOf xs = some ks → ks.map (·.2) = xs ∧ ∀ (i : Nat) (d : D) (k : Int), xs[i]? = some d → (ks.map (·.1))[i]? = some k → ∃ r, d = .tup (.int k :: r)
  | [], _, h => by simp [keysOf] at h; subst h; exact ⟨rfl, fun i d k e => by simp at e⟩
  | d :: r, ks, h => by
    simp only [keysOf] at h
    split at h
    · rename_i k l
      obtain ⟨kr, h1, rfl⟩ := Option.map_eq_some_iff.mp h
      obtain ⟨h2, h3⟩ := keys_len h1
      refine ⟨by rw [List.map_cons, h2], fun i d' k' e1 e2 => ?_⟩
      cases i with
      | zero =>
        simp at e1 e2
        subst e1 e2
        exact ⟨l, rfl⟩
      | succ i => exact h3 i d' k' (by simpa using e1) (by simpa using e2)
    · cases h
theorem RepM.tri {g : Gh} : ∀ {a : List (Int × V)} {c : List (Int × D)}, RepM K g a c → ∃ T : List (Int × V × D), a = T.map (fun t => (t.1, t.2.1)) ∧ c = T.map (fun t => (t.1, t.2.2)) ∧ ∀ t ∈ T, Rep K g t.2.1 t.2.2
  | _, _, .nil => ⟨[], rfl, rfl, fun _ h => by cases h⟩
  | _, _, @RepM.cons _ _ _ k v d a c h r => by
    obtain ⟨T, rfl, rfl, q⟩ := RepM.tri r
    refine ⟨(k, v, d) :: T, rfl, rfl, fun t m => ?_⟩
    rcases List.mem_cons.mp m with rfl | m
    · exact h
    · exact q t m
theorem RepM.ofTri {g : Gh} : ∀ {T : List (Int × V × D)}, (∀ t ∈ T, Rep K g t.2.1 t.2.2) → RepM K g (T.map fun t => (t.1, t.2.1)) (T.map fun t => (t.1, t.2.2))
  | [], _ => .nil
  | t :: T, h => .cons (h t (List.mem_cons_self ..)) (RepM.ofTri fun t m => h t (List.mem_cons_of_mem _ m))
theorem sortK_rep {g : Gh} {a : List (Int × V)} {c : List (Int × D)} (r : RepM K g a c) : RepM K g (sortK a) (sortK c) := by
  obtain ⟨T, rfl, rfl, q⟩ := r.tri
  unfold sortK
  rw [← List.map_mergeSort (r := fun p q => decide (p.1 ≤ q.1)) (fun _ _ _ _ => rfl), ← List.map_mergeSort (r := fun p q => decide (p.1 ≤ q.1)) (fun _ _ _ _ => rfl)]
  exact RepM.ofTri fun t m => q t ((List.mergeSort_perm _ _).mem_iff.mp m)
theorem RepM.snd {κ : Type} {g : Gh} : ∀ {a : List (κ × V)} {c : List (κ × D)}, RepM K g a c → RepL K g (a.map (·.2)) (c.map (·.2))
  | _, _, .nil => .nil
  | _, _, .cons h r => .cons h (RepM.snd r)
theorem ok_sort (ha : OkE K b env ta fa) : OkE K b env (tSortK ta) (fun s => (fa s).bind fun p => match p.1 with
    | .obj m => match getO p.2 m with
      | some (.lst xs) => if xs.length ≤ 60 then (keysOf xs).map fun ks => (.obj p.2.length, p.2 ++ [some (.lst ((sortK ks).map (·.2)))]) else none
      | _ => none
    | _ => none) := fun g s σ H d s' e W E Q q => by
  obtain ⟨⟨x, s1⟩, e1, e⟩ := Option.bind_eq_some_iff.mp e
  refine ha g s σ H x s1 e1 W E _ fun v g1 H1 S1 W1 r1 => ?_
  simp only at e
  split at e
  · split at e
    · rename_i xs hx
      split at e
      · rename_i hc
        obtain ⟨ks, hk, e⟩ := Option.map_eq_some_iff.mp e
        cases e
        obtain ⟨a, vs, h1, h2, h3⟩ := W1.objL hx
        have := r1.at_ h1
        subst this
        obtain ⟨k1, k2⟩ := keys_len hk
        have kl : ks.length = xs.length := by rw [← k1, List.length_map]
        refine ⟨a, vs, ks.map (·.1), rfl, h2, by rw [h3.length, List.length_map, kl], by rw [h3.length]; exact hc, fun j w k hj hkj => ?_, fun p hp => ?_⟩
        · obtain ⟨y, hy, ry⟩ := h3.getV hj
          obtain ⟨l, rfl⟩ := k2 j y k hy hkj
          cases ry with
          | tup hF rl =>
            cases rl with
            | cons r0 rl =>
              cases r0
              exact ⟨_, _, rfl, W1.hT hF⟩
        · have zr : RepM K g1 ((ks.map (·.1)).zip vs) ks := by
            have h4 : RepL K g1 vs (ks.map (·.2)) := by rw [k1]; exact h3
            have := RepM.zip (ks := ks.map (·.1)) h4
            have ez : (ks.map (·.1)).zip (ks.map (·.2)) = ks := by
              have : ∀ l : List (Int × D), (l.map (·.1)).zip (l.map (·.2)) = l := fun l => by
                induction l with
                | nil => rfl
                | cons p t ih => rw [List.map_cons, List.map_cons, List.zip_cons_cons, ih]
              exact this ks
            rw [ez] at this
            exact this
          exact (q.after W S1 W1).newL W1 (sortK_rep zr).snd hp
      · cases e
    · cases e
  · cases e

/-! ### instances -/
theorem Wf.objI {g : Gh} {s : Sto} {H : Hp} (W : Wf K g s H) {n : Nat} {c : Str} {fs : List (Str × D)} (h : getO s n = some (.ins c fs)) : ∃ a C dx vs, g.r[n]? = some a ∧ H a = some (.ins C dx vs) ∧ cAd K c = C ∧ RepO K g (.ins C dx vs) (.ins c fs) := by
  obtain ⟨a, o, h1, _, h3, h4⟩ := W.liv n _ h rfl
  cases o with
  | ins C dx vs => exact ⟨a, C, dx, vs, h1, h3, cAd_of h4.1, h4⟩
  | _ => exact (show False from h4).elim
theorem lookup_rep {g : Gh} {f : Str} : ∀ {vs : List (Str × V)} {fs : List (Str × D)}, RepM K g vs fs → (∀ d, fs.lookup f = some d → ∃ v, vs.lookup f = some v ∧ Rep K g v d ∧ (f, v) ∈ vs) ∧ (fs.lookup f = none → vs.lookup f = none)
  | _, _, .nil => ⟨fun d h => by simp at h, fun _ => rfl⟩
  | _, _, @RepM.cons _ _ _ k v d a c h r => by
    obtain ⟨i1, i2⟩ := lookup_rep (f := f) r
    by_cases e : f = k
    · subst e
      simp only [List.lookup_cons, beq_self_eq_true]
      exact ⟨fun d' h' => by cases h'; exact ⟨v, rfl, h, List.mem_cons_self ..⟩, fun h' => by cases h'⟩
    · have eb : (f == k) = false := by simpa using e
      simp only [List.lookup_cons, eb]
      exact ⟨fun d' h' => by obtain ⟨v', a1, a2, a3⟩ := i1 d' h'; exact ⟨v', a1, a2, List.mem_cons_of_mem _ a3⟩, i2⟩
theorem ok_fld {f : Str} (ha : OkE K b env ta fa) : OkE K b env (tFld K ta f) (fun s => (fa s).bind fun p => match p.1 with
    | .obj n => match getO p.2 n with
      | some (.ins _ fs) => (fs.lookup f).map fun d => (d, p.2)
      | _ => none
    | _ => none) := fun g s σ H d s' e W E Q q => by
  obtain ⟨⟨x, s1⟩, e1, e⟩ := Option.bind_eq_some_iff.mp e
  refine ha g s σ H x s1 e1 W E _ fun v g1 H1 S1 W1 r1 => ?_
  simp only at e
  split at e
  · split at e
    · rename_i c fs hx
      obtain ⟨d1, hd, e⟩ := Option.map_eq_some_iff.mp e
      cases e
      obtain ⟨a, C, dx, vs, h1, h2, rfl, h3, h4, h5, h6⟩ := W1.objI hx
      have := r1.at_ h1
      subst this
      obtain ⟨v1, l1, l2, l3⟩ := (lookup_rep h6).1 d hd
      exact ⟨a, _, dx, vs, v1, rfl, h2, h4, h5 _ l3, l1, (q.after W S1 W1).now W1 l2⟩
    · cases e
  · cases e
theorem ok_meth {C : Cc} {n i : Nat} {cn m : Str} {t : TA} {f : Sto → Option (List D × Sto)} (hA : ∀ ds s r, C.fx i ds s = some r → ds.length = n) (ha : OkE K b env ta fa) (ht : OkA K b env t f) : OkE K b env (tMeth (cAd K cn) m (SpX K n (C.fx i)) [] E0 ta t) (fun s => (fa s).bind fun p => match p.1 with
    | .obj n => match getO p.2 n with
      | some (.ins c' fs) => if c' = cn ∧ fs.lookup m = none then (f p.2).bind fun q => C.fn i (.obj n :: q.1) q.2 else none
      | _ => none
    | _ => none) := fun g s σ H d s' e W E Q q => by
  obtain ⟨⟨x, s1⟩, e1, u⟩ := Option.bind_eq_some_iff.mp e
  clear e
  refine ha g s σ H x s1 e1 W E _ fun v g1 H1 S1 W1 r1 => ?_
  simp only at u
  split at u
  · split at u
    · rename_i k c fs hx
      split at u
      · rename_i hc
        obtain ⟨rfl, hm⟩ := hc
        obtain ⟨⟨ds, s2⟩, e2, u⟩ := Option.bind_eq_some_iff.mp u
        obtain ⟨a, C', dx, vs, h1, h2, rfl, h3, h4, h5, h6⟩ := W1.objI hx
        have := r1.at_ h1
        subst this
        refine ⟨a, dx, vs, rfl, h2, (lookup_rep h6).2 hm, ht g1 s1 σ H1 ds s2 e2 W1 (E.mono S1.le) _ fun us g2 H2 S2 W2 r2 => ?_⟩
        rw [List.append_nil]
        exact run_sp (p := false) hA u W2 (.cons (r1.mono S2.le) r2) ((q.after W S1 W1).after W1 S2 W2)
      · cases u
    · cases u
  · cases u

/-! ### keywords, sorted, reversed -/
theorem ok_methK {C : Cc} {n i m0 : Nat} {perm : List Nat} {cn m : Str} {t tk : TA} {f fk : Sto → Option (List D × Sto)} (hA : ∀ ds s r, C.fx i ds s = some r → ds.length = n) (ha : OkE K b env ta fa) (ht : OkA K b env t f) (hk : OkA K b env tk fk) : OkE K b env (FwQ.tMethK (cAd K cn) m (SpX K n (C.fx i)) (fun vs zs => permL .non m0 perm vs zs) (fun _ => E0) ta t tk) (fun s => (fa s).bind fun p => match p.1 with
    | .obj n => match getO p.2 n with
      | some (.ins c' fs) => if c' = cn ∧ fs.lookup m = none then (f p.2).bind fun q => (fk q.2).bind fun r => C.fn i (permL .non m0 perm (.obj n :: q.1) r.1) r.2 else none
      | _ => none
    | _ => none) := fun g s σ H d s' e W E Q q => by
  obtain ⟨⟨x, s1⟩, e1, u⟩ := Option.bind_eq_some_iff.mp e
  clear e
  refine ha g s σ H x s1 e1 W E _ fun v g1 H1 S1 W1 r1 => ?_
  simp only at u
  split at u
  · split at u
    · rename_i k c fs hx
      split at u
      · rename_i hc
        obtain ⟨rfl, hm⟩ := hc
        obtain ⟨⟨ds, s2⟩, e2, u⟩ := Option.bind_eq_some_iff.mp u
        obtain ⟨⟨zs, s3⟩, e3, u⟩ := Option.bind_eq_some_iff.mp u
        obtain ⟨a, C', dx, vs, h1, h2, rfl, h3, h4, h5, h6⟩ := W1.objI hx
        have := r1.at_ h1
        subst this
        refine ⟨a, dx, vs, rfl, h2, (lookup_rep h6).2 hm, ht g1 s1 σ H1 ds s2 e2 W1 (E.mono S1.le) _ fun us g2 H2 S2 W2 r2 => hk g2 s2 σ H2 zs s3 e3 W2 ((E.mono S1.le).mono S2.le) _ fun ws g3 H3 S3 W3 r3 => ?_⟩
        exact run_sp (p := false) hA u W3 (perm_rep (.cons ((r1.mono S2.le).mono S3.le) (r2.mono S3.le)) r3) (((q.after W S1 W1).after W1 S2 W2).after W2 S3 W3)
      · cases u
    · cases u
  · cases u
theorem RepL.reverse {g : Gh} : ∀ {vs : List V} {ds : List D}, RepL K g vs ds → RepL K g vs.reverse ds.reverse
  | _, _, .nil => .nil
  | _, _, .cons h r => by
    rw [List.reverse_cons, List.reverse_cons]
    exact (RepL.reverse r).append (.cons h .nil)
theorem ok_rev (ha : OkE K b env ta fa) : OkE K b env (FwR.tRev K ta) (fun s => (fa s).bind fun p => match p.1 with
    | .tup xs => some (.tup xs.reverse, p.2)
    | .lst xs => some (.lst xs.reverse, p.2)
    | _ => none) := fun g s σ H d s' e W E Q q => by
  obtain ⟨⟨x, s1⟩, e1, e⟩ := Option.bind_eq_some_iff.mp e
  refine ha g s σ H x s1 e1 W E _ fun v g1 H1 S1 W1 r1 => ?_
  cases r1 with
  | tup h r =>
    cases e
    exact ⟨_, _, rfl, .inr ⟨.of (W1.hT h), fun p hp => (q.after W S1 W1).tup W1 r.reverse hp⟩⟩
  | lst h r =>
    cases e
    exact ⟨_, _, rfl, .inl ⟨.of (W1.hL h), fun p hp => (q.after W S1 W1).lst W1 r.reverse hp⟩⟩
  | _ => simp at e
theorem tup1_of {p : PyData} (h : tup1 p = true) : ∃ x r, p = .tuple (x :: r) := by
  unfold tup1 at h
  split at h
  · exact ⟨_, _, rfl⟩
  · cases h
theorem ntup_of {p : PyData} (h : ntup p = true) : p ≠ .none ∧ ∀ xs, p ≠ .tuple xs := by
  constructor
  · rintro rfl; cases h
  · rintro xs rfl; cases h
theorem sortB_of {ps : List PyData} (h : sortB ps = true) : PySem.W.Sortable ps := by
  unfold sortB at h
  rw [Bool.or_eq_true] at h
  rcases h with h | h
  · exact .inl fun d hd => tup1_of (List.all_eq_true.mp h d hd)
  · exact .inr fun d hd => ntup_of (List.all_eq_true.mp h d hd)
theorem toPL_len : ∀ {l : List D} {ps : List PyData}, toPL l = some ps → l.length = ps.length
  | [], ps, h => by simp [toPL] at h; subst h; rfl
  | d :: l, ps, h => by
    simp only [toPL] at h
    split at h
    · cases h
      rename_i p qs h1 h2
      rw [List.length_cons, List.length_cons, toPL_len h2]
    · cases h
theorem zip_rep {g : Gh} : ∀ {vs : List V} {ds : List D} {ps : List PyData}, RepL K g vs ds → ds.length = ps.length → ∀ z ∈ vs.zip (ds.zip ps), Rep K g z.1 z.2.1
  | _, _, _, .nil, _, z, h => by simp at h
  | _, _, [], .cons _ _, hl, _, _ => by simp at hl
  | _, _, p :: ps, .cons h r, hl, z, hz => by
    rw [List.zip_cons_cons, List.zip_cons_cons] at hz
    rcases List.mem_cons.mp hz with rfl | hz
    · exact h
    · exact zip_rep r (by simpa using hl) z hz
/-- the same turns on both sides -/
theorem sort_rep {g : Gh} {vs : List V} {ds : List D} {ps : List PyData} (r : RepL K g vs ds) (hl : ds.length = ps.length) : RepL K g (FwR.sortV vs ps) (((ds.zip ps).mergeSort (PySem.W.dataLe false fun p => p.2)).map (·.1)) := by
  have e1 : ((vs.zip (ds.zip ps)).map fun z => (z.1, z.2.2)) = vs.zip ps := by
    clear r
    induction vs generalizing ds ps with
    | nil => rfl
    | cons v vs ih =>
      cases ds with
      | nil => cases ps with
        | nil => rfl
        | cons p ps => simp at hl
      | cons d ds => cases ps with
        | nil => simp at hl
        | cons p ps =>
          simp only [List.zip_cons_cons, List.map_cons]
          rw [ih (by simpa using hl)]
  have e2 : ((vs.zip (ds.zip ps)).map fun z => z.2) = ds.zip ps := by
    have hv := r.length
    clear r e1
    induction vs generalizing ds ps with
    | nil =>
      cases ds with
      | nil => rfl
      | cons d ds => simp at hv
    | cons v vs ih =>
      cases ds with
      | nil => simp at hv
      | cons d ds => cases ps with
        | nil => simp at hl
        | cons p ps =>
          simp only [List.zip_cons_cons, List.map_cons]
          rw [ih (by simpa using hl) (by simpa using hv)]
  have m1 := List.map_mergeSort (r := PySem.W.dataLe false fun (z : V × D × PyData) => z.2.2) (s := PySem.W.dataLe false fun (p : V × PyData) => p.2) (f := fun z => (z.1, z.2.2)) (l := vs.zip (ds.zip ps)) (fun a _ b _ => rfl)
  have m2 := List.map_mergeSort (r := PySem.W.dataLe false fun (z : V × D × PyData) => z.2.2) (s := PySem.W.dataLe false fun (p : D × PyData) => p.2) (f := fun z => z.2) (l := vs.zip (ds.zip ps)) (fun a _ b _ => rfl)
  rw [e1] at m1
  rw [e2] at m2
  unfold FwR.sortV
  rw [← m1, ← m2, List.map_map, List.map_map]
  have all : ∀ z ∈ vs.zip (ds.zip ps), Rep K g z.1 z.2.1 := by
    clear m1 m2 e1 e2
    exact zip_rep r hl
  have gen : ∀ l : List (V × D × PyData), (∀ z ∈ l, Rep K g z.1 z.2.1) → RepL K g (l.map fun z => z.1) (l.map fun z => z.2.1) := by
    intro l
    induction l with
    | nil => intro _; exact .nil
    | cons z l ih => intro h; exact .cons (h z (List.mem_cons_self ..)) (ih fun y m => h y (List.mem_cons_of_mem _ m))
  exact gen _ fun z hz => all z ((List.mergeSort_perm _ _).mem_iff.mp hz)
theorem ok_sortD (ha : OkE K b env ta fa) : OkE K b env (tCB (FwR.rSortD K) (tCons ta tNil)) (fun s => (fa s).bind fun p => (listD p.2 p.1).bind fun ds => (sortDs ds).map fun es => (.lst es, p.2)) := fun g s σ H d s' e W E Q q => by
  obtain ⟨⟨x, s1⟩, e1, e⟩ := Option.bind_eq_some_iff.mp e
  obtain ⟨ds, hz, e⟩ := Option.bind_eq_some_iff.mp e
  obtain ⟨es, hs, e⟩ := Option.map_eq_some_iff.mp e
  cases e
  refine ha g s σ H x _ e1 W E _ fun v g1 H1 S1 W1 r1 => ?_
  obtain ⟨a, vs, rfl, r, c⟩ := ok_seq hz W1 r1
  unfold sortDs at hs
  split at hs
  · rename_i ps hps
    split at hs
    · rename_i hc
      cases hs
      obtain ⟨c1, c2, c3, c4⟩ := hc
      have hl := toPL_len hps
      obtain ⟨k, hk⟩ : ∃ k, FwR.SqB K k H1 a vs := by
        rcases c with c | c
        · exact ⟨true, c⟩
        · exact ⟨false, c.1⟩
      refine ⟨k, a, vs, ps, rfl, hk, RepL.toDp W1 r hps, fun p hp p' hp' => ?_, sortB_of c3, by rw [r.length]; exact szl c1, fun p hp => ?_, fun l hl' => (q.after W S1 W1).lst W1 (sort_rep r hl) hl'⟩
      · exact List.all_eq_true.mp (List.all_eq_true.mp c2 p hp) p' hp'
      · exact of_decide_eq_true (List.all_eq_true.mp c4 p hp)
    · cases hs
  · cases hs

/-! ### comprehensions -/
theorem ok_lc {ti : TI} {fi : Sto → Option (Src × Sto)} {t : TT} {ft : En → Sto → Option (Bool × Sto)} {te : TE} {fe : En → Sto → Option (D × Sto)} {tg : G} {own : List Nat} (hi : OkI K b env ti fi) (ht : ∀ e1, OkT K b e1 t (ft e1)) (he : ∀ e1, OkE K b e1 te (fe e1)) :
    OkE K b env (tLc ti (rdG K tg) t te own) (fun s => if (tg.slots.all fun i => own.contains i) = true then (fi s).bind fun p =>
      (srcGo (fun d s1 => (asgG tg d (wipeD env own)).bind fun e1 => (ft e1 s1).bind fun q => match q.1 with
        | true => (fe e1 q.2).map fun r => (some r.1, r.2)
        | false => some (none, q.2)) p.1 p.2).map fun q => (.lst q.1, q.2)
      else none) := fun g s σ H d s' e W E Q q => by
  simp only at e
  split at e
  · rename_i hown
    have hown' : ∀ i ∈ tg.slots, i ∈ own := fun i hi => by
      have := List.all_eq_true.mp hown i hi
      simpa using this
    obtain ⟨⟨src, s1⟩, e1, e⟩ := Option.bind_eq_some_iff.mp e
    obtain ⟨⟨ds, s2⟩, e2, e⟩ := Option.map_eq_some_iff.mp e
    cases e
    refine hi g s σ H src s1 e1 W E _ fun J g1 H1 S1 W1 goes Dl hD => ?_
    -- what is left
    let f : D → Sto → Option (Option D × Sto) := fun d s1 => (asgG tg d (wipeD env own)).bind fun e1 => (ft e1 s1).bind fun q => match q.1 with
        | true => (fe e1 q.2).map fun r => (some r.1, r.2)
        | false => some (none, q.2)
    obtain ⟨R, k, rem, hk, r0⟩ : ∃ R k, Rem src f R k ∧ k ≤ ZL ∧ R 0 s1 = some (ds, s2) := by
      cases src with
      | vals l =>
        simp only [srcGo] at e2
        split at e2
        · exact ⟨_, _, rem_vals, by assumption, e2⟩
        · cases e2
      | objl n k =>
        simp only [srcGo] at e2
        split at e2
        · exact ⟨_, _, rem_obj, by assumption, e2⟩
        · cases e2
    have E1 := E.mono S1.le
    have q1 := q.after W S1 W1
    refine ⟨fun i m H' => ∃ g' s' acc accD rest, Step b g1 s1 H1 g' s' H' ∧ Wf K g' s' H' ∧ H' Dl = some (.lst acc) ∧ g'.F Dl = none ∧ (∀ n : Nat, g'.r[n]? ≠ some Dl) ∧ RepL K g' acc accD ∧ accD.length ≤ i ∧ i ≤ k ∧ R i s' = some (rest, s2) ∧ ds = accD ++ rest ∧ m = k - i,
      ⟨k, g1, s1, [], [], ds, Step.refl.off hD, W1.off (W1.fnone hD) (fun n h => W1.at_ n _ h hD), upd_same, W1.fnone hD, fun n h => W1.at_ n _ h hD, .nil, Nat.zero_le _, Nat.zero_le _, r0, rfl, rfl⟩, ?_⟩
    rintro i m H' ⟨g', s', acc, accD, rest, S', W', hacc, hF, hr, ra, hl, hik, hR, hds, rfl⟩
    rcases rem.at_ i s' _ hik hR with ⟨rfl, hst, hend⟩ | ⟨hlt, d, hd, od, s3, rest', s4, hf, hR', hend⟩
    · left
      cases hend
      refine ⟨goes.done i g' _ H' S' W' hst, ?_⟩
      rw [List.append_nil] at hds
      subst hds
      exact q1 _ _ _ (S'.adopt hD hF) (W'.adopt hF (fun n _ => hr n) hacc) (.lst (show upd g'.F Dl _ Dl = _ from upd_same) (ra.mono (le_adopt hF)))
    · right
      obtain ⟨hgo, hyl⟩ := goes.item i g' s' H' d S' W' hd
      refine ⟨hgo, fun H2 => ∃ g' s' acc accD rest, Step b g1 s1 H1 g' s' H2 ∧ Wf K g' s' H2 ∧ H2 Dl = some (.lst acc) ∧ g'.F Dl = none ∧ (∀ n : Nat, g'.r[n]? ≠ some Dl) ∧ RepL K g' acc accD ∧ accD.length ≤ i + 1 ∧ i + 1 ≤ k ∧ R (i + 1) s' = some (rest, s2) ∧ ds = accD ++ rest, fun H2 h2 => ?_, fun x H3 y3 => ?_⟩
      · obtain ⟨g', s', acc, accD, rest, z⟩ := h2
        exact ⟨k - (i + 1), by omega, g', s', acc, accD, rest, z.1, z.2.1, z.2.2.1, z.2.2.2.1, z.2.2.2.2.1, z.2.2.2.2.2.1, z.2.2.2.2.2.2.1, z.2.2.2.2.2.2.2.1, z.2.2.2.2.2.2.2.2.1, z.2.2.2.2.2.2.2.2.2, rfl⟩
      · obtain ⟨g3, S3, W3, r3⟩ := hyl x H3 y3
        have hf' : ((asgG tg d (wipeD env own)).bind fun e1 => (ft e1 s').bind fun q => match q.1 with
          | true => (fe e1 q.2).map fun r => (some r.1, r.2)
          | false => some (none, q.2)) = some (od, s3) := hf
        obtain ⟨ee, he1, hf'⟩ := Option.bind_eq_some_iff.mp hf'
        obtain ⟨⟨tv, s5⟩, ht1, hf'⟩ := Option.bind_eq_some_iff.mp hf'
        have E3 : EnR K g3 (wipeD env own) (wipe σ own) := ((E1.mono S'.le).mono S3.le).wipe own
        have h0 := wipe_G (K := K) tg x (wipe σ own) H3 own _ hown' (ok_G tg d _ ee (wipe σ own) x H3 g3 s' he1 W3 E3 r3 (fun σ' H0 => H0 = H3 ∧ EnR K g3 ee σ') fun σ' E' => ⟨rfl, E'⟩)
        refine mono_G tg x _ H3 _ _ h0 fun σ2 H2 ⟨ew, rfl, E2⟩ => ⟨ew.trans wipe_idem, ?_⟩
        refine ht ee g3 s' σ2 H2 tv s5 ht1 W3 E2 _ fun g4 H4 S4 W4 => ?_
        have keep : ∀ {g5 s6 H5}, Wf K g5 s6 H5 → Step b g4 s5 H4 g5 s6 H5 → Step b g' s' H' g5 s6 H5 := fun W5 S5 => (S3.trans W' W3 S4).trans W' W4 S5
        cases tv with
        | true =>
          rw [if_pos rfl]
          obtain ⟨⟨yd, s6⟩, hy, hf'⟩ := Option.map_eq_some_iff.mp hf'
          cases hf'
          refine he ee g4 s5 σ2 H4 yd _ hy W4 (E2.mono S4.le) _ fun yv g5 H5 S5 W5 r5 => ?_
          have S6 := keep W5 S5
          obtain ⟨a1, a2, a3⟩ := S6.keep_new hacc hr (fun vs z => by cases z) hF W'
          refine ⟨acc, a1, by rw [ra.length]; exact szl' (by omega), g5, _, acc ++ [yv], accD ++ [yd], rest', (S'.trans W1 W' S6).off hD, W5.off a2 a3, upd_same, a2, a3, (ra.mono S6.le).append (.cons r5 .nil), by rw [List.length_append, List.length_singleton]; omega, hlt, ?_, ?_⟩
          · cases hend; exact hR'
          · rw [hds]; cases hend; simp
        | false =>
          rw [if_neg Bool.false_ne_true]
          cases hf'
          have S6 := keep W4 .refl
          obtain ⟨a1, a2, a3⟩ := S6.keep_new hacc hr (fun vs z => by cases z) hF W'
          refine ⟨g4, _, acc, accD, rest', S'.trans W1 W' S6, W4, a1, a2, a3, ra.mono S6.le, by omega, hlt, ?_, ?_⟩
          · cases hend; exact hR'
          · rw [hds]; cases hend; rfl
  · cases e

theorem ok_newLc {ti : TI} {fi : Sto → Option (Src × Sto)} {t : TT} {ft : En → Sto → Option (Bool × Sto)} {te : TE} {fe : En → Sto → Option (D × Sto)} {tg : G} {own : List Nat} (hi : OkI K b env ti fi) (ht : ∀ e1, OkT K b e1 t (ft e1)) (he : ∀ e1, OkE K b e1 te (fe e1)) :
    OkE K b env (tLc ti (rdG K tg) t te own) (fun s => if (tg.slots.all fun i => own.contains i) = true then (fi s).bind fun p =>
      (srcGo (fun d s1 => (asgG tg d (wipeD env own)).bind fun e1 => (ft e1 s1).bind fun q => match q.1 with
        | true => (fe e1 q.2).map fun r => (some r.1, r.2)
        | false => some (none, q.2)) p.1 p.2).map fun q => (.obj q.2.length, q.2 ++ [some (.lst q.1)])
      else none) := fun g s σ H d s' e W E Q q => by
  simp only at e
  split at e
  · rename_i hown
    have hown' : ∀ i ∈ tg.slots, i ∈ own := fun i hi => by
      have := List.all_eq_true.mp hown i hi
      simpa using this
    obtain ⟨⟨src, s1⟩, e1, e⟩ := Option.bind_eq_some_iff.mp e
    obtain ⟨⟨ds, s2⟩, e2, e⟩ := Option.map_eq_some_iff.mp e
    cases e
    refine hi g s σ H src s1 e1 W E _ fun J g1 H1 S1 W1 goes Dl hD => ?_
    -- what is left
    let f : D → Sto → Option (Option D × Sto) := fun d s1 => (asgG tg d (wipeD env own)).bind fun e1 => (ft e1 s1).bind fun q => match q.1 with
        | true => (fe e1 q.2).map fun r => (some r.1, r.2)
        | false => some (none, q.2)
    obtain ⟨R, k, rem, hk, r0⟩ : ∃ R k, Rem src f R k ∧ k ≤ ZL ∧ R 0 s1 = some (ds, s2) := by
      cases src with
      | vals l =>
        simp only [srcGo] at e2
        split at e2
        · exact ⟨_, _, rem_vals, by assumption, e2⟩
        · cases e2
      | objl n k =>
        simp only [srcGo] at e2
        split at e2
        · exact ⟨_, _, rem_obj, by assumption, e2⟩
        · cases e2
    have E1 := E.mono S1.le
    have q1 := q.after W S1 W1
    refine ⟨fun i m H' => ∃ g' s' acc accD rest, Step b g1 s1 H1 g' s' H' ∧ Wf K g' s' H' ∧ H' Dl = some (.lst acc) ∧ g'.F Dl = none ∧ (∀ n : Nat, g'.r[n]? ≠ some Dl) ∧ RepL K g' acc accD ∧ accD.length ≤ i ∧ i ≤ k ∧ R i s' = some (rest, s2) ∧ ds = accD ++ rest ∧ m = k - i,
      ⟨k, g1, s1, [], [], ds, Step.refl.off hD, W1.off (W1.fnone hD) (fun n h => W1.at_ n _ h hD), upd_same, W1.fnone hD, fun n h => W1.at_ n _ h hD, .nil, Nat.zero_le _, Nat.zero_le _, r0, rfl, rfl⟩, ?_⟩
    rintro i m H' ⟨g', s', acc, accD, rest, S', W', hacc, hF, hr, ra, hl, hik, hR, hds, rfl⟩
    rcases rem.at_ i s' _ hik hR with ⟨rfl, hst, hend⟩ | ⟨hlt, d, hd, od, s3, rest', s4, hf, hR', hend⟩
    · left
      cases hend
      refine ⟨goes.done i g' _ H' S' W' hst, ?_⟩
      rw [List.append_nil] at hds
      subst hds
      obtain ⟨W2, R2⟩ := W'.take hF hr hacc (q := .lst ds) ra
      exact q1 _ _ _ (S'.take W' hD) W2 R2
    · right
      obtain ⟨hgo, hyl⟩ := goes.item i g' s' H' d S' W' hd
      refine ⟨hgo, fun H2 => ∃ g' s' acc accD rest, Step b g1 s1 H1 g' s' H2 ∧ Wf K g' s' H2 ∧ H2 Dl = some (.lst acc) ∧ g'.F Dl = none ∧ (∀ n : Nat, g'.r[n]? ≠ some Dl) ∧ RepL K g' acc accD ∧ accD.length ≤ i + 1 ∧ i + 1 ≤ k ∧ R (i + 1) s' = some (rest, s2) ∧ ds = accD ++ rest, fun H2 h2 => ?_, fun x H3 y3 => ?_⟩
      · obtain ⟨g', s', acc, accD, rest, z⟩ := h2
        exact ⟨k - (i + 1), by omega, g', s', acc, accD, rest, z.1, z.2.1, z.2.2.1, z.2.2.2.1, z.2.2.2.2.1, z.2.2.2.2.2.1, z.2.2.2.2.2.2.1, z.2.2.2.2.2.2.2.1, z.2.2.2.2.2.2.2.2.1, z.2.2.2.2.2.2.2.2.2, rfl⟩
      · obtain ⟨g3, S3, W3, r3⟩ := hyl x H3 y3
        have hf' : ((asgG tg d (wipeD env own)).bind fun e1 => (ft e1 s').bind fun q => match q.1 with
          | true => (fe e1 q.2).map fun r => (some r.1, r.2)
          | false => some (none, q.2)) = some (od, s3) := hf
        obtain ⟨ee, he1, hf'⟩ := Option.bind_eq_some_iff.mp hf'
        obtain ⟨⟨tv, s5⟩, ht1, hf'⟩ := Option.bind_eq_some_iff.mp hf'
        have E3 : EnR K g3 (wipeD env own) (wipe σ own) := ((E1.mono S'.le).mono S3.le).wipe own
        have h0 := wipe_G (K := K) tg x (wipe σ own) H3 own _ hown' (ok_G tg d _ ee (wipe σ own) x H3 g3 s' he1 W3 E3 r3 (fun σ' H0 => H0 = H3 ∧ EnR K g3 ee σ') fun σ' E' => ⟨rfl, E'⟩)
        refine mono_G tg x _ H3 _ _ h0 fun σ2 H2 ⟨ew, rfl, E2⟩ => ⟨ew.trans wipe_idem, ?_⟩
        refine ht ee g3 s' σ2 H2 tv s5 ht1 W3 E2 _ fun g4 H4 S4 W4 => ?_
        have keep : ∀ {g5 s6 H5}, Wf K g5 s6 H5 → Step b g4 s5 H4 g5 s6 H5 → Step b g' s' H' g5 s6 H5 := fun W5 S5 => (S3.trans W' W3 S4).trans W' W4 S5
        cases tv with
        | true =>
          rw [if_pos rfl]
          obtain ⟨⟨yd, s6⟩, hy, hf'⟩ := Option.map_eq_some_iff.mp hf'
          cases hf'
          refine he ee g4 s5 σ2 H4 yd _ hy W4 (E2.mono S4.le) _ fun yv g5 H5 S5 W5 r5 => ?_
          have S6 := keep W5 S5
          obtain ⟨a1, a2, a3⟩ := S6.keep_new hacc hr (fun vs z => by cases z) hF W'
          refine ⟨acc, a1, by rw [ra.length]; exact szl' (by omega), g5, _, acc ++ [yv], accD ++ [yd], rest', (S'.trans W1 W' S6).off hD, W5.off a2 a3, upd_same, a2, a3, (ra.mono S6.le).append (.cons r5 .nil), by rw [List.length_append, List.length_singleton]; omega, hlt, ?_, ?_⟩
          · cases hend; exact hR'
          · rw [hds]; cases hend; simp
        | false =>
          rw [if_neg Bool.false_ne_true]
          cases hf'
          have S6 := keep W4 .refl
          obtain ⟨a1, a2, a3⟩ := S6.keep_new hacc hr (fun vs z => by cases z) hF W'
          refine ⟨g4, _, acc, accD, rest', S'.trans W1 W' S6, W4, a1, a2, a3, ra.mono S6.le, by omega, hlt, ?_, ?_⟩
          · cases hend; exact hR'
          · rw [hds]; cases hend; rfl
  · cases e

/-! ### all together -/
theorem zip_keys : ∀ {ks : List Str} {vs : List V}, (ks.map V.str).zip vs = ((ks.map (Sum.inr : Str → Key)).zip vs).map fun kv => (kV kv.1, kv.2)
  | [], _ => rfl
  | _ :: _, [] => rfl
  | k :: ks, v :: vs => by
    rw [List.map_cons, List.zip_cons_cons, zip_keys]; rfl
/-- the defs stand as they are said -/
structure Lk (C : Cc) (c : Rc) : Prop where
  fx : c.fx = C.fx
  ar : ∀ i ds s r, C.fx i ds s = some r → ds.length = c.ar i
  sub : ∀ a h b, C.sub a h = some b → PySem.W.exmOne c.K (.ref (cAd c.K a)) (.ref (cAd c.K h)) = some b
theorem evEs_len {C : Cc} {env : En} : ∀ (es : Es) {s s' : Sto} {ds : List D}, evEs C env es s = some (ds, s') → ds.length = es.n
  | .nil, _, _, _, h => by simp only [evEs] at h; cases h; rfl
  | .cons e es, s, s', ds, h => by
    simp only [evEs] at h
    obtain ⟨⟨x, s1⟩, e1, h⟩ := Option.bind_eq_some_iff.mp h
    obtain ⟨⟨xs, s2⟩, e2, h⟩ := Option.map_eq_some_iff.mp h
    cases h
    rw [List.length_cons, evEs_len es e2]; rfl
mutual
theorem sndE {C : Cc} {c : Rc} (L : Lk C c) (env : En) : ∀ e : E, OkE c.K C.bs env (rdE c e) (evE C env e)
  | .var i => fun g s σ H d s' e W E Q q => by
    simp only [evE] at e
    split at e
    · rename_i x hx
      cases e
      obtain ⟨v, h1, h2⟩ := E.get hx
      exact ⟨v, h1, q.now W h2⟩
    · cases e
  | .non => ok_con fun _ => .non
  | .bl b => ok_con fun _ => .bl b
  | .int i => ok_con fun _ => .int i
  | .str x => ok_con fun _ => .str x
  | .tup es => ok_tupE (sndEs L env es)
  | .lst es => ok_lstE (sndEs L env es)
  | .newL es => ok_newLE (sndEs L env es)
  | .newK => fun g s σ H d s' e W E Q q p hp => by
    cases e
    exact q.newK W .nil hp
  | .newT => fun g s σ H d s' e W E Q q p hp => by
    cases e
    exact q.newT W hp
  | .disp ks es => fun g s σ H d s' e W E Q q p hp => by
    simp only [evE] at e
    obtain ⟨⟨ds, s1⟩, e1, e⟩ := Option.bind_eq_some_iff.mp e
    simp only at e
    split at e
    · rename_i hc
      cases e
      have W0 : Wf c.K g s (upd H p (.dK [])) := W.exx (Exx.new hp)
      have hn : ∀ n : Nat, g.r[n]? ≠ some p := fun n h => W.at_ n p h hp
      refine sndDs L env es ks g s σ _ ds s1 e1 hc.1 W0 E _ fun vs g2 H2 S2 W2 r2 => ?_
      obtain ⟨a1, a2, a3⟩ := S2.keep_new upd_same hn (fun vs z => by cases z) (W.fnone hp) W0
      refine ⟨a1, (ks.map Sum.inr).zip vs, zip_keys, by rw [List.length_zip, List.length_map]; omega, ?_⟩
      have S3 : Step C.bs g s H g2 s1 H2 := ⟨S2.le, fun a o h hl => S2.keep a o (Exx.new hp a o h) hl, fun a h => S2.dom a ((Exx.new hp).dom h), fun a h => S2.nt a (h.upd fun z => absurd hp (z ▸ h.1)), fun a h f => S2.fresh a (h.upd fun z => absurd hp (z ▸ h.1)) f, fun n a h e => by
        have := S2.own n a h e
        by_cases z : a = p
        · subst z; exact hp
        · rw [upd_ne z] at this; exact this, S2.lm, S2.grow⟩
      have W3 := W2.off (o := .dK (mergeK [] ((ks.map Sum.inr).zip vs))) a2 a3
      obtain ⟨W4, r4⟩ := W3.take (q := .dK (mergeD [] ((ks.map Sum.inr).zip ds))) a2 a3 upd_same (RepM.merge (RepM.zip r2) .nil)
      exact q _ _ _ ((S3.off hp).take W3 hp) W4 r4
    · cases e
  | .bin o a b => ok_two (f := fun _ => evBin o) (sndE L env a) (sndE L env b) (ok_bin o)
  | .cmp o a b => fun g s σ H d s' e W E Q q => by
    refine ok_two (f := fun _ x y => (evCmp o x y).map D.bl) (sndE L env a) (sndE L env b) (ok_cmp o) g s σ H d s' ?_ W E Q q
    simp only [evE] at e
    simp only [Option.map_map]
    exact e
  | .chn o o' a b d => ok_chn (sndE L env a) (sndE L env b) (sndE L env d)
  | .not a => ok_notE (sndE L env a)
  | .and a b => ok_andE (sndE L env a) (sndE L env b)
  | .or a b => ok_orE (sndE L env a) (sndE L env b)
  | .ife t a b => ok_ife (sndT L env t) (sndE L env a) (sndE L env b)
  | .idx a b => ok_two (f := atD) (sndE L env a) (sndE L env b) ok_idx
  | .dget a k => ok_dget (sndE L env a) (sndE L env k)
  | .dnin k a => ok_dnin (sndE L env k) (sndE L env a)
  | .din k a => ok_din (sndE L env k) (sndE L env a)
  | .slc a lo hi => ok_slcE (sndE L env a) (sndO L env lo) (sndO L env hi)
  | .call p i es => fun g s σ H d s' e W E Q q => by
    simp only [evE] at e
    obtain ⟨⟨ds, s1⟩, e1, e⟩ := Option.bind_eq_some_iff.mp e
    refine sndEs L env es g s σ H ds s1 e1 W E _ fun vs g1 H1 S1 W1 r1 => ?_
    rw [List.append_nil, L.fx]
    exact run_sp (L.ar i) e W1 r1 (q.after W S1 W1)
  | .callK p i perm es ks => fun g s σ H d s' e W E Q q => by
    simp only [evE] at e
    obtain ⟨⟨ds, s1⟩, e1, e⟩ := Option.bind_eq_some_iff.mp e
    obtain ⟨⟨ds2, s2⟩, e2, e⟩ := Option.bind_eq_some_iff.mp e
    refine sndEs L env es g s σ H ds s1 e1 W E _ fun vs g1 H1 S1 W1 r1 => sndEs L env ks g1 s1 σ H1 ds2 s2 e2 W1 (E.mono S1.le) _ fun zs g2 H2 S2 W2 r2 => ?_
    rw [L.fx]
    exact run_sp (L.ar i) e W2 (perm_rep (r1.mono S2.le) r2) ((q.after W S1 W1).after W1 S2 W2)
  | .b1 f a => ok_b1E (sndE L env a)
  | .newLst a => ok_newLst (sndE L env a)
  | .tupRg a => ok_tupRg (sndE L env a)
  | .lstRg a => ok_lstRg (sndE L env a)
  | .newLstRg a => ok_newLstRg (sndE L env a)
  | .max2 a b => ok_max2 (sndE L env a) (sndE L env b)
  | .isI a t => ok_isiE (sndE L env a)
  | .join a b => ok_join (sndE L env a) (sndE L env b)
  | .pop a => ok_pop (sndE L env a)
  | .popAt a b => ok_popAt (sndE L env a) (sndE L env b)
  | .app a b => ok_app (sndE L env a) (sndE L env b)
  | .ext a b => ok_ext (sndE L env a) (sndE L env b)
  | .newSort a => ok_sort (sndE L env a)
  | .fld a f => ok_fld (sndE L env a)
  | .meth cn m i a es => by
    show OkE c.K C.bs env (tMeth (cAd c.K cn) m (SpX c.K (c.ar i) (c.fx i)) [] E0 (rdE c a) (rdEs c es)) _
    rw [L.fx]
    exact ok_meth (L.ar i) (sndE L env a) (sndEs L env es)
  | .mk cn i es => fun g s σ H d s' e W E Q q => by
    simp only [evE] at e
    obtain ⟨⟨ds, s1⟩, e1, u⟩ := Option.bind_eq_some_iff.mp e
    clear e
    simp only at u
    split at u
    · rename_i s2 hf
      cases u
      intro ok
      refine sndEs L env es g s σ H ds s1 e1 W E _ fun vs g1 H1 S1 W1 r1 => fun x dx hx hd hne => ?_
      have X1 : Exx H1 (upd H1 dx (.own x)) := Exx.new hd
      have W2 := W1.exx X1
      have hx2 : (upd H1 dx (.own x)) x = none := by rw [upd_ne hne.symm]; exact hx
      obtain ⟨S3, W3, R3⟩ := W2.push (b := C.bs) (o := .ins (cAd c.K cn) dx []) (q := .ins cn []) hx2 ⟨ok.ns, ok.cl, (fun p h => by cases h), .nil⟩
      rw [List.append_nil, L.fx]
      refine run_sp (b := C.bs) (p := false) (L.ar i) hf W3 (.cons R3 (r1.mono S3.le)) (Q := fun v H2 => v = .non ∧ Q (.ref x) H2) fun v g4 H4 S4 W4 r4 => ?_
      cases r4
      exact ⟨rfl, q _ g4 H4 (S1.trans W W1 ((Step.exx X1).trans W1 W2 (S3.trans W2 W3 S4))) W4 (R3.mono S4.le)⟩
    · cases u
  | .methK cn m i perm a es ks => by
    show OkE c.K C.bs env (FwQ.tMethK (cAd c.K cn) m (SpX c.K (c.ar i) (c.fx i)) _ (fun _ => E0) (rdE c a) (rdEs c es) (rdEs c ks)) _
    rw [L.fx]
    exact ok_methK (L.ar i) (sndE L env a) (sndEs L env es) (sndEs L env ks)
  | .mkK cn i perm es ks => fun g s σ H d s' e W E Q q => by
    simp only [evE] at e
    obtain ⟨⟨ds, s1⟩, e1, u⟩ := Option.bind_eq_some_iff.mp e
    obtain ⟨⟨zs, s2⟩, e2, u⟩ := Option.bind_eq_some_iff.mp u
    clear e
    simp only at u
    split at u
    · rename_i s3 hf
      cases u
      intro ok
      refine sndEs L env es g s σ H ds s1 e1 W E _ fun vs g1 H1 S1 W1 r1 => sndEs L env ks g1 s1 σ H1 zs s2 e2 W1 (E.mono S1.le) _ fun ws g2 H2 S2 W2 r2 => ⟨?_, ?_, fun x dx hx hd hne => ?_⟩
      · rw [r1.length]; exact evEs_len _ e1
      · rw [r2.length]; exact evEs_len _ e2
      have X1 : Exx H2 (upd H2 dx (.own x)) := Exx.new hd
      have W2' := W2.exx X1
      have hx2 : (upd H2 dx (.own x)) x = none := by rw [upd_ne hne.symm]; exact hx
      obtain ⟨S3, W3, R3⟩ := W2'.push (b := C.bs) (o := .ins (cAd c.K cn) dx []) (q := .ins cn []) hx2 ⟨ok.ns, ok.cl, (fun p h => by cases h), .nil⟩
      rw [L.fx]
      refine run_sp (b := C.bs) (p := false) (L.ar i) hf W3 (perm_rep (.cons R3 ((r1.mono S2.le).mono S3.le)) (r2.mono S3.le)) (Q := fun v H2 => v = .non ∧ Q (.ref x) H2) fun v g4 H4 S4 W4 r4 => ?_
      cases r4
      exact ⟨rfl, q _ g4 H4 (S1.trans W W1 (S2.trans W1 W2 ((Step.exx X1).trans W2 W2' (S3.trans W2' W3 S4)))) W4 (R3.mono S4.le)⟩
    · cases u
  | .rev a => ok_rev (sndE L env a)
  | .sort a => ok_sortD (sndE L env a)
  | .lc g it t e own => ok_lc (sndI L env it) (fun e1 => sndT L e1 t) (fun e1 => sndE L e1 e)
  | .newLc g it t e own => ok_newLc (sndI L env it) (fun e1 => sndT L e1 t) (fun e1 => sndE L e1 e)
theorem sndEs {C : Cc} {c : Rc} (L : Lk C c) (env : En) : ∀ es : Es, OkA c.K C.bs env (rdEs c es) (evEs C env es)
  | .nil => fun g s σ H d s' e W E Q q => by
    cases e
    exact q [] g H .refl W .nil
  | .cons e es => fun g s σ H d s' h W E Q q => by
    simp only [evEs] at h
    obtain ⟨⟨x, s1⟩, e1, h⟩ := Option.bind_eq_some_iff.mp h
    obtain ⟨⟨xs, s2⟩, e2, h⟩ := Option.map_eq_some_iff.mp h
    cases h
    exact sndE L env e g s σ H x s1 e1 W E _ fun v g1 H1 S1 W1 r1 => sndEs L env es g1 s1 σ H1 xs _ e2 W1 (E.mono S1.le) _ fun vs g2 H2 S2 W2 r2 =>
      q (v :: vs) g2 H2 (S1.trans W W1 S2) W2 (.cons (r1.mono S2.le) r2)
theorem sndDs {C : Cc} {c : Rc} (L : Lk C c) (env : En) : ∀ (es : Es) (ks : List Str), ∀ g s σ H ds s', evEs C env es s = some (ds, s') → ds.length = ks.length → Wf c.K g s H → EnR c.K g env σ → ∀ Q : List (V × V) → Hp → Prop,
    PostL c.K C.bs g s H ds s' (fun vs => Q ((ks.map V.str).zip vs)) → tPairs (rdDs c ks es) σ H Q
  | .nil, ks => fun g s σ H d s' e hl W E Q q => by
    cases e
    cases ks with
    | nil => exact q [] g H .refl W .nil
    | cons k t => simp at hl
  | .cons e es, [] => fun g s σ H d s' h hl W E Q q => by
    simp only [evEs] at h
    obtain ⟨⟨x, s1⟩, e1, h⟩ := Option.bind_eq_some_iff.mp h
    obtain ⟨⟨xs, s2⟩, e2, h⟩ := Option.map_eq_some_iff.mp h
    cases h
    simp at hl
  | .cons e es, k :: ks => fun g s σ H d s' h hl W E Q q => by
    simp only [evEs] at h
    obtain ⟨⟨x, s1⟩, e1, h⟩ := Option.bind_eq_some_iff.mp h
    obtain ⟨⟨xs, s2⟩, e2, h⟩ := Option.map_eq_some_iff.mp h
    cases h
    exact sndE L env e g s σ H x s1 e1 W E _ fun v g1 H1 S1 W1 r1 => sndDs L env es ks g1 s1 σ H1 xs _ e2 (by simpa using hl) W1 (E.mono S1.le) _ fun vs g2 H2 S2 W2 r2 =>
      q (v :: vs) g2 H2 (S1.trans W W1 S2) W2 (.cons (r1.mono S2.le) r2)
theorem sndO {C : Cc} {c : Rc} (L : Lk C c) (env : En) : ∀ o : Oe, OkO c.K C.bs env (rdO c o) (evOe C env o)
  | .none => fun g s σ H d s' e W E Q q => by
    cases e
    exact q g H .refl W
  | .some e => fun g s σ H d s' h W E Q q => by
    simp only [evOe] at h
    obtain ⟨⟨x, s1⟩, e1, h⟩ := Option.bind_eq_some_iff.mp h
    refine sndE L env e g s σ H x s1 e1 W E _ fun v g1 H1 S1 W1 r1 => ?_
    cases r1 with
    | int i => cases h; exact ⟨i, rfl, q g1 H1 S1 W1⟩
    | _ => simp at h
theorem sndT {C : Cc} {c : Rc} (L : Lk C c) (env : En) : ∀ t : T, OkT c.K C.bs env (rdT c t) (evT C env t)
  | .yes => fun g s σ H d s' e W E Q q => by
    cases e
    exact q g H .refl W
  | .tru e => fun g s σ H d s' h W E Q q => by
    simp only [evT] at h
    obtain ⟨⟨x, s1⟩, e1, h⟩ := Option.bind_eq_some_iff.mp h
    obtain ⟨k, hk, h⟩ := Option.map_eq_some_iff.mp h
    cases h
    exact sndE L env e g s σ H x _ e1 W E _ fun v g1 H1 S1 W1 r1 => ⟨_, ok_tru hk W1 r1, q g1 H1 S1 W1⟩
  | .val e => fun g s σ H d s' h W E Q q => by
    simp only [evT] at h
    obtain ⟨⟨x, s1⟩, e1, h⟩ := Option.bind_eq_some_iff.mp h
    refine sndE L env e g s σ H x s1 e1 W E _ fun v g1 H1 S1 W1 r1 => ?_
    cases r1 with
    | bl k => cases h; exact ⟨_, rfl, q g1 H1 S1 W1⟩
    | _ => simp at h
  | .and a b => fun g s σ H d s' h W E Q q => by
    simp only [evT] at h
    obtain ⟨⟨x, s1⟩, e1, h⟩ := Option.bind_eq_some_iff.mp h
    refine sndT L env a g s σ H x s1 e1 W E _ fun g1 H1 S1 W1 => ?_
    cases x with
    | true =>
      show rdT c b σ H1 Q
      exact sndT L env b g1 s1 σ H1 d s' h W1 (E.mono S1.le) Q fun g2 H2 S2 W2 => q g2 H2 (S1.trans W W1 S2) W2
    | false => cases h; exact q g1 H1 S1 W1
  | .or a b => fun g s σ H d s' h W E Q q => by
    simp only [evT] at h
    obtain ⟨⟨x, s1⟩, e1, h⟩ := Option.bind_eq_some_iff.mp h
    refine sndT L env a g s σ H x s1 e1 W E _ fun g1 H1 S1 W1 => ?_
    cases x with
    | false =>
      show rdT c b σ H1 Q
      exact sndT L env b g1 s1 σ H1 d s' h W1 (E.mono S1.le) Q fun g2 H2 S2 W2 => q g2 H2 (S1.trans W W1 S2) W2
    | true => cases h; exact q g1 H1 S1 W1
  | .not a => fun g s σ H d s' h W E Q q => by
    simp only [evT] at h
    obtain ⟨⟨x, s1⟩, e1, h⟩ := Option.map_eq_some_iff.mp h
    cases h
    exact sndT L env a g s σ H x _ e1 W E _ fun g1 H1 S1 W1 => q g1 H1 S1 W1
theorem sndI {C : Cc} {c : Rc} (L : Lk C c) (env : En) : ∀ t : It, OkI c.K C.bs env (rdI c t) (evI C env t)
  | .seq e => fun g s σ H d s' h W E R q => by
    simp only [evI] at h
    obtain ⟨⟨x, s1⟩, e1, h⟩ := Option.bind_eq_some_iff.mp h
    obtain ⟨src, hs, h⟩ := Option.map_eq_some_iff.mp h
    cases h
    refine sndE L env e g s σ H x _ e1 W E _ fun v g1 H1 S1 W1 r1 => ?_
    cases r1 with
    | tup ha ra =>
      simp only [seqSrc, Option.some.injEq] at hs
      subst hs
      exact ⟨_, rfl, .inr ⟨⟨_, .of (W1.hT ha)⟩, q _ g1 H1 S1 W1 (goes_tup ha ra)⟩⟩
    | lst ha ra =>
      simp only [seqSrc, Option.some.injEq] at hs
      subst hs
      exact ⟨_, rfl, .inl ⟨⟨_, .of (W1.hL ha)⟩, q _ g1 H1 S1 W1 (goes_lst ha ra)⟩⟩
    | scr ha =>
      simp only [seqSrc, Option.some.injEq] at hs
      subst hs
      exact ⟨_, rfl, .inl ⟨⟨_, W1.sqL ha⟩, q _ g1 H1 S1 W1 (goes_scr ha)⟩⟩
    | obj ha =>
      simp only [seqSrc] at hs
      split at hs
      · rename_i xs hx
        cases hs
        obtain ⟨a', vs, h1, h2, h3⟩ := W1.objL hx
        rw [ha] at h1; cases h1
        exact ⟨_, rfl, .inl ⟨⟨vs, .of h2⟩, q _ g1 H1 S1 W1 (goes_obj ha)⟩⟩
      · cases hs
    | _ => simp [seqSrc] at hs
  | .rng1 e => fun g s σ H d s' h W E R q => by
    simp only [evI] at h
    obtain ⟨⟨x, s1⟩, e1, h⟩ := Option.bind_eq_some_iff.mp h
    refine sndE L env e g s σ H x _ e1 W E _ fun v g1 H1 S1 W1 r1 => ?_
    cases r1 with
    | int n =>
      simp only at h
      split at h
      · rename_i hn
        cases h
        have hZ : (ZL : Nat) = 1000000 := rfl
        refine ⟨n, rfl, by omega, by omega, q _ g1 H1 S1 W1 (goes_rng ?_)⟩
        unfold rgD
        simp only [Int.zero_add]
      · cases h
    | _ => simp at h
  | .rng2 a b => fun g s σ H d s' h W E R q => by
    simp only [evI] at h
    obtain ⟨⟨x, s1⟩, e1, h⟩ := Option.bind_eq_some_iff.mp h
    obtain ⟨⟨y, s2⟩, e2, h⟩ := Option.bind_eq_some_iff.mp h
    refine sndE L env a g s σ H x s1 e1 W E _ fun v g1 H1 S1 W1 r1 => sndE L env b g1 s1 σ H1 y s2 e2 W1 (E.mono S1.le) _ fun u g2 H2 S2 W2 r2 => ?_
    cases r1 with
    | int i =>
      cases r2 with
      | int j =>
        simp only at h
        split at h
        · rename_i hn
          cases h
          have hZ : (ZL : Nat) = 1000000 := rfl
          exact ⟨i, j, rfl, ⟨by omega, by omega, by omega, by omega⟩, q _ g2 H2 (S1.trans W W1 S2) W2 (goes_rng rfl)⟩
        · cases h
      | _ => simp at h
    | _ => simp at h
  | .zip a b => fun g s σ H d s' h W E R q => by
    simp only [evI] at h
    obtain ⟨⟨x, s1⟩, e1, h⟩ := Option.bind_eq_some_iff.mp h
    obtain ⟨⟨y, s2⟩, e2, h⟩ := Option.bind_eq_some_iff.mp h
    obtain ⟨src, hs, h⟩ := Option.map_eq_some_iff.mp h
    cases h
    refine sndE L env a g s σ H x s1 e1 W E _ fun v g1 H1 S1 W1 r1 => sndE L env b g1 s1 σ H1 y _ e2 W1 (E.mono S1.le) _ fun u g2 H2 S2 W2 r2 => ?_
    unfold zipSrc at hs
    split at hs
    · rename_i xs ys hx hy
      cases hs
      obtain ⟨k, a, vs, rfl, ra, fa⟩ := seq_at r1 hx
      obtain ⟨k', a', ws, rfl, rb, fb⟩ := seq_at r2 hy
      exact ⟨k, k', a, a', vs, ws, rfl, fa S2.le W2, fb (.refl _) W2, q _ g2 H2 (S1.trans W W1 S2) W2 (goes_zipB (fun l W => fa (S2.le.trans l) W) (ra.mono S2.le) fb rb)⟩
    · cases hs
  | .enum e => fun g s σ H d s' h W E R q => by
    simp only [evI] at h
    obtain ⟨⟨x, s1⟩, e1, h⟩ := Option.bind_eq_some_iff.mp h
    obtain ⟨src, hs, h⟩ := Option.map_eq_some_iff.mp h
    cases h
    refine sndE L env e g s σ H x _ e1 W E _ fun v g1 H1 S1 W1 r1 => ?_
    unfold enumSrc at hs
    obtain ⟨xs, hx, rfl⟩ := Option.map_eq_some_iff.mp hs
    obtain ⟨k, a, vs, rfl, ra, fa⟩ := seq_at r1 hx
    exact ⟨k, a, vs, rfl, fa (.refl _) W1, q _ g1 H1 S1 W1 (goes_enum fa ra)⟩
  | .keys i => fun g s σ H d s' h W E R q => by simp [evI] at h
end
end
end Fw

/-! Fw, part H: statements, blocks, defs. -/
namespace Fw
open PySem PySem.Spec PyProof.Rows L2

def PostS (K : PySem.W.Frag) (b : Nat) (g : Gh) (s : Sto) (H : Hp) (rs : Rs) (D : Ends) (W : WX) : Prop :=
  match rs with
  | .nx e s' => ∀ σ' g' H', Step b g s H g' s' H' → Wf K g' s' H' → EnR K g' e σ' → D.nx σ' H'
  | .rt d s' => ∀ v g' H', Step b g s H g' s' H' → Wf K g' s' H' → Rep K g' v d → D.rt v H'
  | .bk e s' => ∀ σ' g' H', Step b g s H g' s' H' → Wf K g' s' H' → EnR K g' e σ' → D.bk σ' H'
  | .ct e s' => ∀ σ' g' H', Step b g s H g' s' H' → Wf K g' s' H' → EnR K g' e σ' → D.ct σ' H'
  | .ex c fs e s' => ∀ σ' g' H' dd, Step b g s H g' s' H' → Wf K g' s' H' → EnR K g' e σ' → RepF K g' dd fs → W (.ref (cAd K c)) (some dd) σ' H'
def OkS (K : PySem.W.Frag) (b : Nat) (ts : WX → TS) (f : En → Sto → Option Rs) : Prop := ∀ g s env σ H rs, f env s = some rs → Wf K g s H → EnR K g env σ → ∀ D W, PostS K b g s H rs D W → ts W D σ H

section
variable {K : PySem.W.Frag} {b : Nat}
theorem PostS.after {g g1 : Gh} {s s1 : Sto} {H H1 : Hp} {rs : Rs} {D : Ends} {Wx : WX} (W : Wf K g s H) (S : Step b g s H g1 s1 H1) (W1 : Wf K g1 s1 H1) (q : PostS K b g s H rs D Wx) : PostS K b g1 s1 H1 rs D Wx := by
  cases rs with
  | nx e s' => exact fun σ' g' H' S' W' E' => q σ' g' H' (S.trans W W1 S') W' E'
  | rt e s' => exact fun σ' g' H' S' W' E' => q σ' g' H' (S.trans W W1 S') W' E'
  | bk e s' => exact fun σ' g' H' S' W' E' => q σ' g' H' (S.trans W W1 S') W' E'
  | ct e s' => exact fun σ' g' H' S' W' E' => q σ' g' H' (S.trans W W1 S') W' E'
  | ex c fs e s' => exact fun σ' g' H' dd S' W' E' r' => q σ' g' H' dd (S.trans W W1 S') W' E' r'

/-- a for's turns -/
theorem for_go {ts : WX → TS} {fb : En → Sto → Option Rs} (hb : OkS K b ts fb) {tg : G} {l : List D} {J : L2.It} {g1 : Gh} {s1 : Sto} {H1 : Hp} {env : En} {σ : L2.St} {rs : Rs} {D : Ends} {Wx : WX} (goes : Goes K b g1 s1 H1 J (.vals l)) (h : forV fb tg l env s1 = some rs) (W1 : Wf K g1 s1 H1) (E : EnR K g1 env σ) (q : PostS K b g1 s1 H1 rs D Wx) :
    ∃ W : Nat → Nat → L2.St → Hp → Prop, (∃ m, W 0 m σ H1) ∧ ∀ i m σ H, W i m σ H → (J.stop i H ∧ D.nx σ H) ∨ (J.go i H ∧ ∃ N : L2.St → Hp → Prop, (∀ σ' H', N σ' H' → ∃ m', m' < m ∧ W (i + 1) m' σ' H') ∧ ∀ x H', J.yld i H x H' → rdG K tg x σ H' fun σ2 H2 => ts Wx { D with nx := N, ct := N, bk := D.nx } σ2 H2) := by
  let T : Nat → L2.St → Hp → Prop := fun i σ' H' => ∃ g' s' env', Step b g1 s1 H1 g' s' H' ∧ Wf K g' s' H' ∧ EnR K g' env' σ' ∧ i ≤ l.length ∧ forV fb tg (l.drop i) env' s' = some rs
  refine ⟨fun i m σ' H' => T i σ' H' ∧ m = l.length - i, ⟨l.length, ⟨g1, s1, env, .refl, W1, E, Nat.zero_le _, h⟩, rfl⟩, ?_⟩
  rintro i m σ2 H2 ⟨⟨g2, s2, env2, S2, W2, E2, hi, hf⟩, rfl⟩
  by_cases e : i = l.length
  · left
    subst e
    rw [List.drop_length] at hf
    cases hf
    exact ⟨goes.done _ g2 s2 H2 S2 W2 rfl, q σ2 g2 H2 S2 W2 E2⟩
  · right
    have hl : i < l.length := by omega
    obtain ⟨hgo, hyl⟩ := goes.item i g2 s2 H2 l[i] S2 W2 (List.getElem?_eq_getElem hl)
    refine ⟨hgo, T (i + 1), fun σ' H' t => ⟨l.length - (i + 1), by omega, t, rfl⟩, fun x H3 y3 => ?_⟩
    obtain ⟨g3, S3, W3, r3⟩ := hyl x H3 y3
    rw [List.drop_eq_getElem_cons hl] at hf
    simp only [forV] at hf
    split at hf
    · cases hf
    · rename_i e1 he1
      have S23 := S2.trans W1 W2 S3
      have q3 := q.after W1 S23 W3
      have again : ∀ {e2 s4}, forV fb tg (l.drop (i + 1)) e2 s4 = some rs → ∀ σ' g' H', Step b g3 s2 H3 g' s4 H' → Wf K g' s4 H' → EnR K g' e2 σ' → T (i + 1) σ' H' := fun {e2 s4} h σ' g' H' S' W' E' => ⟨g', s4, e2, S23.trans W1 W3 S', W', E', hl, h⟩
      refine ok_G tg _ env2 e1 σ2 x H3 g3 s2 he1 W3 (E2.mono S3.le) r3 _ fun σ' E' => ?_
      split at hf
      · rename_i e2 s4 hb4
        exact hb g3 s2 e1 σ' H3 _ hb4 W3 E' _ Wx (again hf)
      · rename_i e2 s4 hb4
        exact hb g3 s2 e1 σ' H3 _ hb4 W3 E' _ Wx (again hf)
      · rename_i e2 s4 hb4
        cases hf
        exact hb g3 s2 e1 σ' H3 _ hb4 W3 E' _ Wx q3
      · rename_i e2 s4 hb4
        cases hf
        exact hb g3 s2 e1 σ' H3 _ hb4 W3 E' _ Wx q3
      · rename_i c fs e2 s4 hb4
        cases hf
        exact hb g3 s2 e1 σ' H3 _ hb4 W3 E' _ Wx q3
      · cases hf
/-- a while -/
theorem while_go {t : TT} {ts : WX → TS} {ft : En → Sto → Option (Bool × Sto)} {fb : En → Sto → Option Rs} (ht : ∀ env, OkT K b env t (ft env)) (hb : OkS K b ts fb) (n : Nat) : OkS K b (fun Wx => tWhile t (ts Wx)) (fun e s => whileF ft fb n e s) := fun g1 s1 env σ H1 rs h W1 E D Wx q => by
  let T : Nat → L2.St → Hp → Prop := fun m σ' H' => ∃ g' s' env', Step b g1 s1 H1 g' s' H' ∧ Wf K g' s' H' ∧ EnR K g' env' σ' ∧ whileF ft fb m env' s' = some rs
  refine ⟨T, ⟨n, g1, s1, env, .refl, W1, E, h⟩, ?_⟩
  rintro m σ2 H2 ⟨g2, s2, env2, S2, W2, E2, hf⟩
  cases m with
  | zero => cases hf
  | succ m =>
    simp only [whileF] at hf
    split at hf
    · cases hf
    · rename_i s3 h3
      cases hf
      refine ht env2 g2 s2 σ2 H2 _ _ h3 W2 E2 _ fun g3 H3 S3 W3 => ?_
      rw [if_neg Bool.false_ne_true]
      exact q σ2 g3 H3 (S2.trans W1 W2 S3) W3 (E2.mono S3.le)
    · rename_i s3 h3
      refine ht env2 g2 s2 σ2 H2 _ _ h3 W2 E2 _ fun g3 H3 S3 W3 => ?_
      rw [if_pos rfl]
      have S23 := S2.trans W1 W2 S3
      have q3 := q.after W1 S23 W3
      refine ⟨T m, fun σ' H' t => ⟨m, Nat.lt_succ_self m, t⟩, ?_⟩
      have again : ∀ {e2 s4}, whileF ft fb m e2 s4 = some rs → ∀ σ' g' H', Step b g3 s3 H3 g' s4 H' → Wf K g' s4 H' → EnR K g' e2 σ' → T m σ' H' := fun {e2 s4} h σ' g' H' S' W' E' => ⟨g', s4, e2, S23.trans W1 W3 S', W', E', h⟩
      split at hf
      · rename_i e2 s4 hb4
        exact hb g3 s3 env2 σ2 H3 _ hb4 W3 (E2.mono S3.le) _ Wx (again hf)
      · rename_i e2 s4 hb4
        exact hb g3 s3 env2 σ2 H3 _ hb4 W3 (E2.mono S3.le) _ Wx (again hf)
      · rename_i e2 s4 hb4
        cases hf
        exact hb g3 s3 env2 σ2 H3 _ hb4 W3 (E2.mono S3.le) _ Wx q3
      · rename_i e2 s4 hb4
        cases hf
        exact hb g3 s3 env2 σ2 H3 _ hb4 W3 (E2.mono S3.le) _ Wx q3
      · rename_i c fs e2 s4 hb4
        cases hf
        exact hb g3 s3 env2 σ2 H3 _ hb4 W3 (E2.mono S3.le) _ Wx q3
      · cases hf
/-- an object is taken to stand as it is from here on -/
theorem Wf.freeze {g : Gh} {s : Sto} {H : Hp} (W : Wf K g s H) {n : Nat} {c : Ob} {a : Addr} {o : HO} (hb : b ≤ n) (hc : getO s n = some c) (hl : c.live = true) (ha : g.r[n]? = some a) (ho : H a = some o) (hr : RepO K g o c) {c' : Option Ob} (hc' : ∀ q, c' = some q → q.live = false) (hf : ∀ kvs, c' = some (.fT kvs) → ∃ kv, o = .dT kv ∧ RepM K g kv kvs) :
    Step b g s H ⟨upd g.F a o, g.r⟩ (setO s n c') H ∧ Wf K ⟨upd g.F a o, g.r⟩ (setO s n c') H := by
  obtain ⟨a', u, h1, h2, h3, h4⟩ := W.liv n c hc hl
  rw [ha] at h1; cases h1
  have lv : live s n := ⟨c, hc, hl⟩
  have le := le_adopt (o := o) h2
  have back : ∀ m, live (setO s n c') m → live s m ∧ m ≠ n := fun m ⟨d, h, hd⟩ => by
    rcases getO_set h with ⟨ne, h⟩ | ⟨rfl, h, _⟩
    · exact ⟨⟨d, h, hd⟩, ne⟩
    · have := hc' d h
      rw [hd] at this; cases this
  refine ⟨⟨le, fun _ _ e _ => e, fun _ e => e, fun _ e => e, fun x e f => ?_, fun m x h e => ?_, fun m h _ => (back m h).1, by unfold setO; rw [List.length_set]; exact Nat.le_refl _⟩, ⟨fun x u e => ?_, by unfold setO; rw [List.length_set]; exact W.len, W.at_, fun m d h hd => ?_, fun m kvs h => ?_, fun m k x hm hk em ek => W.inj m k x (back m hm).1 (back k hk).1 em ek⟩⟩
  · by_cases z : x = a
    · subst z; exact .inr ⟨n, hb, ha⟩
    · left
      show upd g.F a o x = none
      rw [upd_ne z]; exact f
  · have e' : g.r[m]? = some x := e
    rw [List.getElem?_eq_none h] at e'; cases e'
  · have e' : upd g.F a o x = some u := e
    by_cases z : x = a
    · subst z; rw [upd_same] at e'; cases e'; exact .inl ho
    · rw [upd_ne z] at e'; exact W.ext x u e'
  · obtain ⟨lm, ne⟩ := back m ⟨d, h, hd⟩
    rcases getO_set h with ⟨_, h⟩ | ⟨e, _, _⟩
    · obtain ⟨x, v, k1, k2, k3, k4⟩ := W.liv m d h hd
      have z : x ≠ a := fun z => by subst z; exact ne (W.inj m n x ⟨d, h, hd⟩ lv k1 ha)
      refine ⟨x, v, k1, ?_, k3, k4.mono le⟩
      show upd g.F a o x = none
      rw [upd_ne z]; exact k2
    · exact absurd e ne
  · rcases getO_set h with ⟨_, h⟩ | ⟨rfl, h, _⟩
    · obtain ⟨x, kv, k1, k2, k3⟩ := W.fT m kvs h
      exact ⟨x, kv, k1, le.F _ _ k2, k3.mono le⟩
    · obtain ⟨kv, rfl, rk⟩ := hf kvs h
      exact ⟨a, kv, ha, upd_same, rk.mono le⟩
theorem frz_ok {g : Gh} {s s1 : Sto} {H : Hp} {env e1 : En} {σ : L2.St} {i : Nat} (h : frzS b i env s = some (e1, s1)) (W : Wf K g s H) (E : EnR K g env σ) : ∃ g', Step b g s H g' s1 H ∧ Wf K g' s1 H ∧ EnR K g' e1 σ := by
  unfold frzS at h
  split at h
  · rename_i n hn
    split at h
    · rename_i hb
      obtain ⟨v, hv, rv⟩ := E.get hn
      split at h
      · rename_i xs hx
        cases h
        obtain ⟨a, vs, h1, h2, h3⟩ := W.objL hx
        have := rv.at_ h1
        subst this
        obtain ⟨S', W'⟩ := W.freeze hb hx rfl h1 h2 (o := .lst vs) h3 (c' := none) (fun q z => by cases z) (fun kvs z => by cases z)
        exact ⟨_, S', W', EnR.reset (.lst (show upd g.F a _ a = _ from upd_same) (h3.mono S'.le)) i (E.mono S'.le) hv⟩
      · rename_i kvs hx
        cases h
        obtain ⟨a, vs, h1, h2, h3⟩ := W.objT hx
        obtain ⟨S', W'⟩ := W.freeze hb hx rfl h1 h2 (o := .dT vs) h3 (c' := some (.fT kvs)) (fun q z => by cases z; rfl) (fun kvs z => by cases z; exact ⟨vs, rfl, h3⟩)
        exact ⟨_, S', W', E.mono S'.le⟩
      · cases h
    · cases h
  · cases h; exact ⟨g, .refl, W, E⟩
  · cases h
theorem RepM.at_ {κ : Type} {g : Gh} : ∀ {a : List (κ × V)} {c : List (κ × D)} {j : Nat} {k k' : κ} {v : V} {d : D}, RepM K g a c → a[j]? = some (k, v) → c[j]? = some (k', d) → k = k'
  | _, _, _, _, _, _, _, .nil, h, _ => by simp at h
  | _, _, 0, _, _, _, _, .cons _ _, h, h' => by
    simp at h h'
    rw [← h.1, ← h'.1]
  | _, _, j + 1, _, _, _, _, .cons _ r, h, h' => RepM.at_ r (by simpa using h) (by simpa using h')
/-- the keys of a dict, gone through under a lock -/
theorem keys_go {ts : WX → TS} {fb : En → Sto → Option Rs} (hb : OkS K b ts fb) {tg : G} {i : Nat} : OkS K b (fun Wx => tLock (tFor (iKeys (tVar i)) (rdG K tg) (ts Wx))) (fun env s => (keySrc b s env i).bind fun p => noEx (forV fb tg p.1 env p.2)) := fun g s env σ H rs h W E D Wx q => by
  obtain ⟨⟨l, s1⟩, h1, h2⟩ := Option.bind_eq_some_iff.mp h
  have h2' : forV fb tg l env s1 = some rs ∧ ∀ c fs e s', rs ≠ .ex c fs e s' := by
    have h2 : noEx (forV fb tg l env s1) = some rs := h2
    cases hz : forV fb tg l env s1 with
    | none => rw [hz] at h2; cases h2
    | some r =>
      rw [hz] at h2
      cases r with
      | ex c fs e s' => cases h2
      | _ =>
        cases h2
        exact ⟨rfl, fun _ _ _ _ z => by cases z⟩
  clear h2
  obtain ⟨h2, nx⟩ := h2'
  unfold keySrc at h1
  split at h1
  · rename_i n hn
    split at h1
    · rename_i hbn
      split at h1
      · rename_i kvs hx
        cases h1
        obtain ⟨v, hv, rv⟩ := E.get hn
        obtain ⟨a, vs, k1, k2, k3⟩ := W.objT hx
        have := rv.at_ k1
        subst this
        obtain ⟨S1, W1⟩ := W.freeze hbn hx rfl k1 k2 (o := .dT vs) k3 (c' := some (.fT kvs)) (fun q z => by cases z; rfl) (fun kvs z => by cases z; exact ⟨vs, rfl, k3⟩)
        refine ⟨a, .dT vs, k2, trivial, fun od => ?_⟩
        -- within the lock
        have nl : ∀ m : Nat, live (setO s n (some (.fT kvs))) m → g.r[m]? ≠ some a := fun m lm e => by
          obtain ⟨c, hc, hl⟩ := lm
          obtain ⟨x, u, z1, z2, _, _⟩ := W1.liv m c hc hl
          have z1' : g.r[m]? = some x := z1
          rw [e] at z1'; cases z1'
          have z2' : upd g.F a (.dT vs) a = none := z2
          rw [upd_same] at z2'; cases z2'
        have Wi : Wf K ⟨upd g.F a (.dT vs), g.r⟩ (setO s n (some (.fT kvs))) (upd H a (.frz od (.dT vs))) := {
          ext := fun x u e => by
            by_cases z : x = a
            · subst z
              have e' : upd g.F x (.dT vs) x = some u := e
              rw [upd_same] at e'; cases e'
              exact .inr ⟨rfl, od, upd_same⟩
            · rw [upd_ne z]; exact W1.ext x u e
          len := W1.len
          at_ := fun m x e => by
            by_cases z : x = a
            · subst z; rw [upd_same]; intro w; cases w
            · rw [upd_ne z]; exact W1.at_ m x e
          liv := fun m c hc hl => by
            obtain ⟨x, u, z1, z2, z3, z4⟩ := W1.liv m c hc hl
            have z : x ≠ a := fun z => by subst z; exact nl m ⟨c, hc, hl⟩ z1
            exact ⟨x, u, z1, z2, by rw [upd_ne z]; exact z3, z4⟩
          fT := W1.fT
          inj := W1.inj }
        -- how it ends
        have out : ∀ {g2 s2 H2}, Step b ⟨upd g.F a (.dT vs), g.r⟩ (setO s n (some (.fT kvs))) (upd H a (.frz od (.dT vs))) g2 s2 H2 → Wf K g2 s2 H2 → H2 a = some (.frz od (.dT vs)) ∧ Step b g s H g2 s2 (upd H2 a (.dT vs)) ∧ Wf K g2 s2 (upd H2 a (.dT vs)) := fun {g2 s2 H2} S2 W2 => by
          have kp := S2.keep a _ upd_same nl
          have Fa : g2.F a = some (.dT vs) := S2.le.F a _ (show upd g.F a _ a = _ from upd_same)
          have nl2 : ∀ m : Nat, live s2 m → g2.r[m]? ≠ some a := fun m ⟨c, hc, hl⟩ e => by
            obtain ⟨x, u, z1, z2, _, _⟩ := W2.liv m c hc hl
            rw [e] at z1; cases z1
            rw [Fa] at z2; cases z2
          refine ⟨kp, ⟨S1.le.trans S2.le, fun x o e hnl => ?_, fun x e => ?_, fun x e => ?_, fun x e f => ?_, fun m x hm e => ?_, fun m hm hi => ?_, ?_⟩, ⟨fun x u e => ?_, W2.len, fun m x e => ?_, fun m c hc hl => ?_, W2.fT, W2.inj⟩⟩
          · have z : x ≠ a := fun z => by subst z; exact hnl n ⟨_, hx, rfl⟩ k1
            rw [upd_ne z]
            refine S2.keep x o (by rw [upd_ne z]; exact e) fun m lm e' => ?_
            have e'' : g.r[m]? = some x := e'
            obtain ⟨c, hc, hl⟩ := lm
            rcases getO_set hc with ⟨_, hc⟩ | ⟨_, hc, _⟩
            · exact hnl m ⟨c, hc, hl⟩ e''
            · cases hc; cases hl
          · by_cases z : x = a
            · subst z; rw [upd_same]; intro w; cases w
            · rw [upd_ne z]
              exact S2.dom x (by rw [upd_ne z]; exact e)
          · by_cases z : x = a
            · subst z; exact .of upd_same fun vs z => by cases z
            · have := S2.nt x (show NT (upd H a _) x by unfold NT; rw [upd_ne z]; exact e)
              unfold NT; rw [upd_ne z]; exact this
          · by_cases z : x = a
            · subst z; exact .inr ⟨n, hbn, k1⟩
            · have := S2.fresh x (show NT (upd H a _) x by unfold NT; rw [upd_ne z]; exact e) (by show upd g.F a _ x = none; rw [upd_ne z]; exact f)
              exact this
          · have := S2.own m x hm e
            by_cases z : x = a
            · subst z; rw [upd_same] at this; cases this
            · rw [upd_ne z] at this; exact this
          · have := S2.lm m hm (by unfold setO; rw [List.length_set]; exact hi)
            exact S1.lm m this hi
          · have := S2.grow
            unfold setO at this
            rw [List.length_set] at this
            exact this
          · by_cases z : x = a
            · subst z
              rw [Fa] at e; cases e
              exact .inl upd_same
            · rw [upd_ne z]; exact W2.ext x u e
          · by_cases z : x = a
            · subst z; rw [upd_same]; intro w; cases w
            · rw [upd_ne z]; exact W2.at_ m x e
          · obtain ⟨x, u, z1, z2, z3, z4⟩ := W2.liv m c hc hl
            have z : x ≠ a := fun z => by subst z; exact nl2 m ⟨c, hc, hl⟩ z1
            exact ⟨x, u, z1, z2, by rw [upd_ne z]; exact z3, z4⟩
        have Ei := E.mono S1.le
        refine ⟨_, hv, a, od, rfl, .inr ⟨vs, upd_same, ?_⟩⟩
        refine for_go (Wx := Wx) hb (J := Itkt a od vs) (l := kvs.map fun kv => .tup (kv.1.map ofKey)) ⟨fun j g2 s2 H2 d S2 W2 hd => ?_, fun j g2 s2 H2 S2 W2 hd => ?_⟩ h2 Wi Ei ?_
        · have kp := S2.keep a _ upd_same nl
          simp only [Src.at_, List.getElem?_map, Option.map_eq_some_iff] at hd
          obtain ⟨⟨k, dd⟩, hk, rfl⟩ := hd
          obtain ⟨hlt, _⟩ := List.getElem?_eq_some_iff.mp hk
          refine ⟨⟨kp, by rw [k3.length]; exact hlt⟩, fun x H3 y => ?_⟩
          obtain ⟨rfl, k', v', p, hv', rfl, hp⟩ := y
          have ek := RepM.at_ k3 hv' hk
          subst ek
          obtain ⟨g3, S3, W3, hF3⟩ := W2.learn (b := b) hp
          exact ⟨g3, S3, W3, .tup hF3 (RepL.ofKeys k')⟩
        · have kp := S2.keep a _ upd_same nl
          simp only [Src.stop, List.length_map] at hd
          exact ⟨kp, by rw [k3.length]; exact Nat.le_of_eq hd⟩
        · cases rs with
          | nx e s' => exact fun σ' g' H' S' W' E' => let ⟨o1, o2, o3⟩ := out S' W'; ⟨o1, q σ' g' _ o2 o3 E'⟩
          | rt d s' => exact fun v g' H' S' W' r' => let ⟨o1, o2, o3⟩ := out S' W'; ⟨o1, q v g' _ o2 o3 r'⟩
          | bk e s' => exact fun σ' g' H' S' W' E' => let ⟨o1, o2, o3⟩ := out S' W'; ⟨o1, q σ' g' _ o2 o3 E'⟩
          | ct e s' => exact fun σ' g' H' S' W' E' => let ⟨o1, o2, o3⟩ := out S' W'; ⟨o1, q σ' g' _ o2 o3 E'⟩
          | ex c fs e s' => exact absurd rfl (nx c fs e s')
      · cases h1
    · cases h1
  · cases h1

/-! ### all statements -/
theorem for_src {C : Cc} {c : Rc} (L : Lk C c) (t : G) (it : It) (bd : Ss) (hb : OkS c.K C.bs (fun Wx => rdSs c Wx bd) (exSs C bd)) (hk : ∀ i, it ≠ .keys i) (hr : ∀ Wx, rdS c Wx (.for_ t it bd) = tFor (rdI c it) (rdG c.K t) (rdSs c Wx bd))
    (he : ∀ env s, exS C (.for_ t it bd) env s = (evI C env it s).bind fun p => match p.1 with
      | .vals l => forV (fun e s1 => exSs C bd e s1) t l env p.2
      | .objl _ _ => none) : OkS c.K C.bs (fun Wx => rdS c Wx (.for_ t it bd)) (exS C (.for_ t it bd)) := fun g s env σ H rs h W E D Wx q => by
  rw [he] at h
  rw [hr]
  obtain ⟨⟨src, s1⟩, e1, h⟩ := Option.bind_eq_some_iff.mp h
  refine sndI L env it g s σ H src s1 e1 W E _ fun J g1 H1 S1 W1 goes => ?_
  cases src with
  | vals l => exact for_go hb goes h W1 (E.mono S1.le) (q.after W S1 W1)
  | objl n k => simp at h
theorem repM_len {κ : Type} {K : PySem.W.Frag} {g : Gh} : ∀ {a : List (κ × V)} {b : List (κ × D)}, RepM K g a b → a.length = b.length
  | _, _, .nil => rfl
  | _, _, .cons _ r => by rw [List.length_cons, List.length_cons, repM_len r]
theorem putF_rep {K : PySem.W.Frag} {g : Gh} (f : Str) {v : V} {d : D} (h : Rep K g v d) : ∀ {a : List (Str × V)} {b : List (Str × D)}, RepM K g a b → RepM K g (putF f v a) (putFD f d b)
  | _, _, .nil => .cons h .nil
  | _, _, @RepM.cons _ _ _ k v' d' a c h' r => by
    unfold putF putFD
    by_cases e : k = f
    · rw [if_pos e, if_pos e]; exact .cons h r
    · rw [if_neg e, if_neg e]; exact .cons h' (putF_rep f h r)
theorem putF_mem {f : Str} {v : V} {p : Str × V} : ∀ {fs : List (Str × V)}, p ∈ putF f v fs → p.1 = f ∨ p ∈ fs
  | [], h => by simp [putF] at h; exact .inl (by rw [h])
  | (k, x) :: r, h => by
    unfold putF at h
    split at h
    · rename_i e
      rcases List.mem_cons.mp h with rfl | h
      · exact .inl e
      · exact .inr (List.mem_cons_of_mem _ h)
    · rcases List.mem_cons.mp h with rfl | h
      · exact .inr (List.mem_cons_self ..)
      · rcases putF_mem h with h | h
        · exact .inl h
        · exact .inr (List.mem_cons_of_mem _ h)
/-! ### expressions that may raise -/
/-- what is wanted of a value or an exception, the slots told -/
def PostX (K : PySem.W.Frag) (b : Nat) (g : Gh) (s : Sto) (H : Hp) (r : Rv) (s' : Sto) (Q : VK) (Wx : WX) (σ : L2.St) : Prop := PostR K b g s H r s' Q (fun cls d H' => Wx cls d σ H')
def OkX (K : PySem.W.Frag) (b : Nat) (env : En) (te : WX → TE) (f : Sto → Option (Rv × Sto)) : Prop := ∀ g s σ H r s', f s = some (r, s') → Wf K g s H → EnR K g env σ → ∀ (Q : VK) (Wx : WX), PostX K b g s H r s' Q Wx σ → te Wx σ H Q
/-- a list of values, or an exception -/
def PostXs (K : PySem.W.Frag) (b : Nat) (g : Gh) (s : Sto) (H : Hp) (r : Rv) (s' : Sto) (Q : List V → Hp → Prop) (Wx : WX) (σ : L2.St) : Prop := match r with
  | .ok (.tup ds) => ∀ vs g' H', Step b g s H g' s' H' → Wf K g' s' H' → RepL K g' vs ds → Q vs H'
  | .ok _ => False
  | .ex c fs => ∀ g' H' dd, Step b g s H g' s' H' → Wf K g' s' H' → RepF K g' dd fs → Wx (.ref (cAd K c)) (some dd) σ H'
def OkXs (K : PySem.W.Frag) (b : Nat) (env : En) (te : WX → TA) (f : Sto → Option (Rv × Sto)) : Prop := ∀ g s σ H r s', f s = some (r, s') → Wf K g s H → EnR K g env σ → ∀ (Q : List V → Hp → Prop) (Wx : WX), PostXs K b g s H r s' Q Wx σ → te Wx σ H Q
theorem evXs_tup {C : Cc} {env : En} : ∀ (xs : Xs) {s s' : Sto} {d : D}, evXs C env xs s = some (.ok d, s') → ∃ ds, d = .tup ds
  | .nil, s, s', d, h => by simp only [evXs] at h; cases h; exact ⟨_, rfl⟩
  | .cons x xs, s, s', d, h => by
    simp only [evXs] at h
    split at h
    · split at h
      · cases h; exact ⟨_, rfl⟩
      · cases h
      · cases h
    · cases h
    · cases h
mutual
theorem sndX {C : Cc} {c : Rc} (L : Lk C c) (env : En) : ∀ x : Xe, OkX c.K C.bs env (fun Wx => rdX c Wx x) (evX C env x)
  | .e a => fun g s σ H r s' h W E Q Wx q => by
    simp only [evX] at h
    obtain ⟨⟨x, s1⟩, e1, h⟩ := Option.map_eq_some_iff.mp h
    cases h
    exact sndE L env a g s σ H x _ e1 W E Q q
  | .call p i es => fun g s σ H r s' h W E Q Wx q => by
    simp only [evX] at h
    obtain ⟨⟨ds, s1⟩, e1, h⟩ := Option.bind_eq_some_iff.mp h
    refine sndEs L env es g s σ H ds s1 e1 W E _ fun vs g1 H1 S1 W1 r1 => ?_
    rw [L.fx]
    exact run_spX (L.ar i) h W1 r1 (PostR.after W S1 W1 q)
  | .callK p i perm es ks => fun g s σ H r s' h W E Q Wx q => by
    simp only [evX] at h
    obtain ⟨⟨ds, s1⟩, e1, h⟩ := Option.bind_eq_some_iff.mp h
    obtain ⟨⟨ds2, s2⟩, e2, h⟩ := Option.bind_eq_some_iff.mp h
    refine sndEs L env es g s σ H ds s1 e1 W E _ fun vs g1 H1 S1 W1 r1 => sndEs L env ks g1 s1 σ H1 ds2 s2 e2 W1 (E.mono S1.le) _ fun zs g2 H2 S2 W2 r2 => ?_
    rw [L.fx]
    exact run_spX (L.ar i) h W2 (perm_rep (r1.mono S2.le) r2) (PostR.after W1 S2 W2 (PostR.after W S1 W1 q))
  | .meth cn m i a es => fun g s σ H r s' h W E Q Wx q => by
    simp only [evX] at h
    obtain ⟨⟨x, s1⟩, e1, u⟩ := Option.bind_eq_some_iff.mp h
    clear h
    refine sndE L env a g s σ H x s1 e1 W E _ fun v g1 H1 S1 W1 r1 => ?_
    simp only at u
    split at u
    · split at u
      · rename_i k cc fs hx
        split at u
        · rename_i hc
          obtain ⟨rfl, hm⟩ := hc
          obtain ⟨⟨ds, s2⟩, e2, u⟩ := Option.bind_eq_some_iff.mp u
          obtain ⟨a', C', dx, vs, h1, h2, rfl, h3, h4, h5, h6⟩ := W1.objI hx
          have := r1.at_ h1
          subst this
          refine ⟨a', dx, vs, rfl, h2, (lookup_rep h6).2 hm, sndEs L env es g1 s1 σ H1 ds s2 e2 W1 (E.mono S1.le) _ fun us g2 H2 S2 W2 r2 => ?_⟩
          rw [L.fx]
          exact run_spX (p := false) (L.ar i) u W2 (.cons (r1.mono S2.le) r2) (PostR.after W1 S2 W2 (PostR.after W S1 W1 q))
        · cases u
      · cases u
    · cases u
  | .tup xs => fun g s σ H r s' h W E Q Wx q => by
    simp only [evX] at h
    split at h
    · rename_i ds s1 e1
      split at h
      · rename_i hl
        cases h
        exact sndXs L env xs g s σ H _ _ e1 W E _ Wx fun vs g1 H1 S1 W1 r1 => ⟨by rw [r1.length]; exact szl hl, fun p hp => (show Post c.K C.bs g1 _ H1 (.tup ds) _ Q from Post.after W S1 W1 q).tup W1 r1 hp⟩
      · cases h
    · rename_i cc fs s1 e1
      cases h
      exact sndXs L env xs g s σ H _ _ e1 W E _ Wx q
    · cases h
  | .lst xs => fun g s σ H r s' h W E Q Wx q => by
    simp only [evX] at h
    split at h
    · rename_i ds s1 e1
      split at h
      · rename_i hl
        cases h
        exact sndXs L env xs g s σ H _ _ e1 W E _ Wx fun vs g1 H1 S1 W1 r1 => ⟨by rw [r1.length]; exact szl hl, fun p hp => (show Post c.K C.bs g1 _ H1 (.lst ds) _ Q from Post.after W S1 W1 q).lst W1 r1 hp⟩
      · cases h
    · rename_i cc fs s1 e1
      cases h
      exact sndXs L env xs g s σ H _ _ e1 W E _ Wx q
    · cases h
  | .ife t a b => fun g s σ H r s' h W E Q Wx q => by
    simp only [evX] at h
    obtain ⟨⟨x, s1⟩, e1, h⟩ := Option.bind_eq_some_iff.mp h
    refine sndT L env t g s σ H x s1 e1 W E _ fun g1 H1 S1 W1 => ?_
    cases x with
    | true =>
      rw [if_pos rfl]
      exact sndX L env a g1 s1 σ H1 r s' h W1 (E.mono S1.le) Q Wx (PostR.after W S1 W1 q)
    | false =>
      rw [if_neg Bool.false_ne_true]
      exact sndX L env b g1 s1 σ H1 r s' h W1 (E.mono S1.le) Q Wx (PostR.after W S1 W1 q)
  | .idx x b => fun g s σ H r s' h W E Q Wx q => by
    simp only [evX] at h
    split at h
    · rename_i d s1 e1
      obtain ⟨⟨y, s2⟩, e2, h⟩ := Option.bind_eq_some_iff.mp h
      obtain ⟨z, e3, h⟩ := Option.map_eq_some_iff.mp h
      cases h
      exact sndX L env x g s σ H _ s1 e1 W E _ Wx fun v g1 H1 S1 W1 r1 => sndE L env b g1 s1 σ H1 y _ e2 W1 (E.mono S1.le) _ fun u g2 H2 S2 W2 r2 =>
        ok_idx (b := C.bs) g2 _ H2 d y _ v u e3 W2 (r1.mono S2.le) r2 Q (Post.after W1 S2 W2 (Post.after W S1 W1 q))
    · rename_i cc fs s1 e1
      cases h
      exact sndX L env x g s σ H _ _ e1 W E _ Wx q
    · cases h
  | .bin o x y => fun g s σ H r s' h W E Q Wx q => by
    simp only [evX] at h
    split at h
    · rename_i d s1 e1
      split at h
      · rename_i d2 s2 e2
        obtain ⟨z, e3, h⟩ := Option.map_eq_some_iff.mp h
        cases h
        exact sndX L env x g s σ H _ s1 e1 W E _ Wx fun v g1 H1 S1 W1 r1 => sndX L env y g1 s1 σ H1 _ _ e2 W1 (E.mono S1.le) _ Wx fun u g2 H2 S2 W2 r2 =>
          ok_bin (b := C.bs) o g2 _ H2 d d2 _ v u e3 W2 (r1.mono S2.le) r2 Q (Post.after W1 S2 W2 (Post.after W S1 W1 q))
      · rename_i cc fs s2 e2
        cases h
        exact sndX L env x g s σ H _ s1 e1 W E _ Wx fun v g1 H1 S1 W1 r1 => sndX L env y g1 s1 σ H1 _ _ e2 W1 (E.mono S1.le) _ Wx (PostR.after (r := .ex cc fs) W S1 W1 q)
      · cases h
    · rename_i cc fs s1 e1
      cases h
      exact sndX L env x g s σ H _ _ e1 W E _ Wx q
    · cases h
theorem sndXs {C : Cc} {c : Rc} (L : Lk C c) (env : En) : ∀ xs : Xs, OkXs c.K C.bs env (fun Wx => rdXs c Wx xs) (evXs C env xs)
  | .nil => fun g s σ H r s' h W E Q Wx q => by
    simp only [evXs] at h
    cases h
    exact q [] g H .refl W .nil
  | .cons x xs => fun g s σ H r s' h W E Q Wx q => by
    simp only [evXs] at h
    split at h
    · rename_i d s1 e1
      split at h
      · rename_i ds s2 e2
        cases h
        exact sndX L env x g s σ H _ s1 e1 W E _ Wx fun v g1 H1 S1 W1 r1 => sndXs L env xs g1 s1 σ H1 _ _ e2 W1 (E.mono S1.le) _ Wx fun vs g2 H2 S2 W2 r2 =>
          q (v :: vs) g2 H2 (S1.trans W W1 S2) W2 (.cons (r1.mono S2.le) r2)
      · rename_i cc fs s2 e2
        cases h
        exact sndX L env x g s σ H _ s1 e1 W E _ Wx fun v g1 H1 S1 W1 r1 => sndXs L env xs g1 s1 σ H1 _ _ e2 W1 (E.mono S1.le) _ Wx fun g2 H2 dd S2 W2 r2 => q g2 H2 dd (S1.trans W W1 S2) W2 r2
      · cases h
    · rename_i cc fs s1 e1
      cases h
      exact sndX L env x g s σ H _ _ e1 W E _ Wx q
    · cases h
end
mutual
theorem sndHE {C : Cc} {c : Rc} (L : Lk C c) (env : En) {a dd C' : Addr} {cls : Value} {i : Option Nat} {fs : List (Str × D)} : ∀ h : HE, ∀ g s σ H d s', evHE C env fs h s = some (d, s') → Wf c.K g s H → EnR c.K g env σ → (∀ j, i = some j → σ[j]? = some (some (.ref a)) ∧ cls = .ref C') → (∀ j, i = some j → RepF c.K g dd fs) → (i = none → fs = []) → ∀ Q : VK, Post c.K C.bs g s H d s' Q → rdHE c i C' a cls (some dd) h σ H Q
  | .e x, g, s, σ, H, d, s', h, W, E, hi, rf, hn, Q, q => sndE L env x g s σ H d s' h W E Q q
  | .xf f, g, s, σ, H, d, s', h, W, E, hi, rf, hn, Q, q => by
    simp only [evHE] at h
    obtain ⟨x, hx, h⟩ := Option.map_eq_some_iff.mp h
    cases h
    cases i with
    | none =>
      rw [hn rfl] at hx
      simp at hx
    | some j =>
      intro _
      obtain ⟨vs, e1, e2⟩ := rf j rfl
      obtain ⟨v, l1, l2, _⟩ := (lookup_rep e2).1 _ hx
      have hH : H dd = some (.xd vs) := by
        rcases W.ext dd _ e1 with z | ⟨z, _⟩
        · exact z
        · cases z
      exact ⟨.ref a, (hi j rfl).1, rfl, (hi j rfl).2, dd, vs, v, rfl, hH, l1, q.now W l2⟩
  | .tup hs, g, s, σ, H, d, s', h, W, E, hi, rf, hn, Q, q => by
    simp only [evHE] at h
    obtain ⟨⟨ds, s1⟩, e1, h⟩ := Option.bind_eq_some_iff.mp h
    simp only at h
    split at h
    · rename_i hl
      cases h
      exact sndHEs L env hs g s σ H ds _ e1 W E hi rf hn _ fun vs g1 H1 S1 W1 r1 => ⟨by rw [r1.length]; exact szl hl, fun p hp => (q.after W S1 W1).tup W1 r1 hp⟩
    · cases h
theorem sndHEs {C : Cc} {c : Rc} (L : Lk C c) (env : En) {a dd C' : Addr} {cls : Value} {i : Option Nat} {fs : List (Str × D)} : ∀ h : HEs, ∀ g s σ H d s', evHEs C env fs h s = some (d, s') → Wf c.K g s H → EnR c.K g env σ → (∀ j, i = some j → σ[j]? = some (some (.ref a)) ∧ cls = .ref C') → (∀ j, i = some j → RepF c.K g dd fs) → (i = none → fs = []) → ∀ Q, PostL c.K C.bs g s H d s' Q → rdHEs c i C' a cls (some dd) h σ H Q
  | .nil, g, s, σ, H, d, s', h, W, E, hi, rf, hn, Q, q => by
    simp only [evHEs] at h
    cases h
    exact q [] g H .refl W .nil
  | .cons x hs, g, s, σ, H, d, s', h, W, E, hi, rf, hn, Q, q => by
    simp only [evHEs] at h
    obtain ⟨⟨y, s1⟩, e1, h⟩ := Option.bind_eq_some_iff.mp h
    obtain ⟨⟨ys, s2⟩, e2, h⟩ := Option.map_eq_some_iff.mp h
    cases h
    exact sndHE L env x g s σ H y s1 e1 W E hi rf hn _ fun v g1 H1 S1 W1 r1 => sndHEs L env hs g1 s1 σ H1 ys _ e2 W1 (E.mono S1.le) hi (fun j z => let ⟨vs, a, b⟩ := rf j z; ⟨vs, S1.le.F _ _ a, b.mono S1.le⟩) hn _ fun vs g2 H2 S2 W2 r2 =>
      q (v :: vs) g2 H2 (S1.trans W W1 S2) W2 (.cons (r1.mono S2.le) r2)
end
theorem EnR.unslot {K : PySem.W.Frag} {g : Gh} {x : Option V} : ∀ {a : En} {b : L2.St} (n : Nat), EnR K g a b → EnR K g (a.set n none) (b.set n x)
  | _, _, _, .nil => .nil
  | _, _, 0, .no r => .no r
  | _, _, 0, .yes _ r => .no r
  | _, _, n + 1, .no r => .no (EnR.unslot n r)
  | _, _, n + 1, .yes h r => .yes h (EnR.unslot n r)
theorem handle_ok {C : Cc} {c : Rc} (L : Lk C c) {cn : Str} {fs : List (Str × D)} {e1 : En} {g : Gh} {s1 : Sto} {H1 : Hp} {σ1 : L2.St} {dd : Addr} {rs : Rs} {D : Ends} {Wx : WX} (W1 : Wf c.K g s1 H1) (E1 : EnR c.K g e1 σ1) (rf : RepF c.K g dd fs) (q : PostS c.K C.bs g s1 H1 rs D Wx) :
    ∀ hs : List Hd, handle C cn fs e1 s1 hs = some rs → FwQ.wMA c.K Wx D (rdHds c hs) (.ref (cAd c.K cn)) (some dd) σ1 H1
  | [], h => by
    simp only [handle] at h
    cases h
    exact q σ1 g H1 dd .refl W1 E1 rf
  | hd :: hs, h => by
    simp only [handle] at h
    split at h
    · rename_i hsub
      split at h
      · rename_i hok
        obtain ⟨⟨x, s2⟩, e2, h⟩ := Option.map_eq_some_iff.mp h
        cases h
        refine ⟨true, L.sub _ _ _ hsub, fun _ a ha => ?_, fun z => by cases z⟩
        obtain ⟨hc, hslot, hret⟩ := hd
        simp only at e2 hok hsub
        cases hslot with
        | none =>
          exact sndHE L e1 hret g s1 σ1 H1 x s2 e2 W1 E1 (fun j z => by cases z) (fun j z => by cases z) (fun _ => rfl) _ q
        | some i =>
          simp only [slotOk, Bool.and_eq_true, decide_eq_true_eq] at hok
          obtain ⟨rfl, hi⟩ := hok
          refine sndHE L (e1.set i none) hret g s1 (σ1.set i (some (.ref a))) H1 x s2 e2 W1 (E1.unslot i) (fun j z => ?_) (fun _ _ => rf) (fun z => by cases z) _ q
          cases z
          exact ⟨by rw [List.getElem?_set_self (by rw [E1.length]; exact hi)], rfl⟩
      · cases h
    · rename_i hsub
      exact ⟨false, L.sub _ _ _ hsub, (fun z => by cases z), fun _ => handle_ok L W1 E1 rf q hs h⟩
    · cases h
theorem setiF_ok {K : PySem.W.Frag} {b : Nat} {g : Gh} {s s' : Sto} {H : Hp} {x y z : D} {o i v : V} {Q : Hp → Prop} (h : setiF x y z s = some s') (W : Wf K g s H) (ro : Rep K g o x) (ri : Rep K g i y) (rv : Rep K g v z) (q : ∀ g' H', Step b g s H g' s' H' → Wf K g' s' H' → Q H') : rSetL o i v H Q := by
  unfold setiF at h
  split at h
  · split at h
    · rename_i n k xs hx
      split at h
      · rename_i j hj
        cases h
        obtain ⟨a, vs, h1, h2, h3⟩ := W.objL hx
        have := ro.at_ h1
        subst this
        cases ri
        obtain ⟨S4, W4⟩ := W.write (b := b) hx rfl h1 (o := .lst (vs.set j v)) (q := .lst (xs.set j z)) (h3.set rv j)
        exact ⟨a, vs, _, j, rfl, rfl, h2, by rw [h3.length]; exact hj, q g _ S4 W4⟩
      · cases h
    · cases h
  · cases h
mutual
theorem sndS {C : Cc} {c : Rc} (L : Lk C c) : ∀ st : S, OkS c.K C.bs (fun Wx => rdS c Wx st) (exS C st)
  | .retX x => fun g s env σ H rs h W E D Wx q => by
    simp only [exS] at h
    split at h
    · rename_i d s1 e1
      cases h
      exact sndX L env x g s σ H _ _ e1 W E _ Wx fun v g1 H1 S1 W1 r1 => q v g1 H1 S1 W1 r1
    · rename_i cn fs s1 e1
      cases h
      exact sndX L env x g s σ H _ _ e1 W E _ Wx fun g1 H1 dd S1 W1 r1 => q σ g1 H1 dd S1 W1 (E.mono S1.le) r1
    · cases h
  | .exprX x => fun g s env σ H rs h W E D Wx q => by
    simp only [exS] at h
    split at h
    · rename_i d s1 e1
      cases h
      exact sndX L env x g s σ H _ _ e1 W E _ Wx fun v g1 H1 S1 W1 r1 => q σ g1 H1 S1 W1 (E.mono S1.le)
    · rename_i cn fs s1 e1
      cases h
      exact sndX L env x g s σ H _ _ e1 W E _ Wx fun g1 H1 dd S1 W1 r1 => q σ g1 H1 dd S1 W1 (E.mono S1.le) r1
    · cases h
  | .asgX t x => fun g s env σ H rs h W E D Wx q => by
    simp only [exS] at h
    split at h
    · rename_i d s1 e1
      obtain ⟨env1, e2, h⟩ := Option.map_eq_some_iff.mp h
      cases h
      exact sndX L env x g s σ H _ _ e1 W E _ Wx fun v g1 H1 S1 W1 r1 => ok_G t d env env1 σ v H1 g1 s1 e2 W1 (E.mono S1.le) r1 _ fun σ' E' => q σ' g1 H1 S1 W1 E'
    · rename_i cn fs s1 e1
      cases h
      exact sndX L env x g s σ H _ _ e1 W E _ Wx fun g1 H1 dd S1 W1 r1 => q σ g1 H1 dd S1 W1 (E.mono S1.le) r1
    · cases h
  | .raise cn fs es => fun g s env σ H rs h W E D Wx q => by
    simp only [exS] at h
    obtain ⟨⟨ds, s1⟩, e1, h⟩ := Option.bind_eq_some_iff.mp h
    simp only at h
    split at h
    · rename_i hl
      cases h
      refine sndEs L env es g s σ H ds s1 e1 W E _ fun vs g1 H1 S1 W1 r1 => ⟨by rw [r1.length]; exact hl, fun d hd => ?_⟩
      obtain ⟨S2, W2⟩ := W1.new (b := C.bs) (o := .xd (fs.zip vs).reverse) hd
      have rz : RepM c.K ⟨upd g1.F d (.xd (fs.zip vs).reverse), g1.r⟩ (fs.zip vs) (fs.zip ds) := RepM.zip (r1.mono S2.le)
      exact q σ _ _ d (S1.trans W W1 S2) W2 ((E.mono S1.le).mono S2.le) ⟨_, upd_same, rz.reverse⟩
    · cases h
  | .try_ b hs => fun g s env σ H rs h W E D Wx q => by
    simp only [exS] at h
    split at h
    · rename_i cn fs e1 s1 h1
      exact sndSs L b g s env σ H _ h1 W E D _ fun σ' g' H' dd S' W' E' r' => handle_ok L W' E' r' (q.after W S' W') hs h
    · rename_i r hr
      refine sndSs L b g s env σ H rs h W E D _ ?_
      cases rs with
      | nx e s' => exact q
      | rt e s' => exact q
      | bk e s' => exact q
      | ct e s' => exact q
      | ex cn fs e s' => exact absurd h (hr cn fs e s')
  | .setp o i o2 i2 e e2 => fun g s env σ H rs h W E D Wx q => by
    simp only [exS] at h
    obtain ⟨⟨x, s1⟩, e1, h⟩ := Option.bind_eq_some_iff.mp h
    obtain ⟨⟨x2, s2⟩, e2', h⟩ := Option.bind_eq_some_iff.mp h
    obtain ⟨⟨y, s3⟩, e3, h⟩ := Option.bind_eq_some_iff.mp h
    obtain ⟨⟨z, s4⟩, e4, h⟩ := Option.bind_eq_some_iff.mp h
    obtain ⟨s5, e5, h⟩ := Option.bind_eq_some_iff.mp h
    obtain ⟨⟨y2, s6⟩, e6, h⟩ := Option.bind_eq_some_iff.mp h
    obtain ⟨⟨z2, s7⟩, e7, h⟩ := Option.bind_eq_some_iff.mp h
    obtain ⟨s8, e8, h⟩ := Option.map_eq_some_iff.mp h
    cases h
    refine sndE L env e g s σ H x s1 e1 W E _ fun v g1 H1 S1 W1 r1 => ?_
    have E1 := E.mono S1.le
    refine sndE L env e2 g1 s1 σ H1 x2 s2 e2' W1 E1 _ fun v2 g2 H2 S2 W2 r2 => ?_
    have E2 := E1.mono S2.le
    refine ⟨by show 2 ≤ sizeLine; decide, fun p hp => ?_⟩
    obtain ⟨S0, W0⟩ := W2.new (b := C.bs) (o := .tup [v, v2]) hp
    have E0 := E2.mono S0.le
    refine ⟨p, [v, v2], rfl, .of upd_same, rfl, v, [v2], rfl, ?_⟩
    refine sndE L env o _ s2 σ _ y s3 e3 W0 E0 _ fun u g3 H3 S3 W3 r3 => ?_
    have E3 := E0.mono S3.le
    refine sndE L env i g3 s3 σ H3 z s4 e4 W3 E3 _ fun w g4 H4 S4 W4 r4 => ?_
    have E4 := E3.mono S4.le
    refine setiF_ok (b := C.bs) e5 W4 (r3.mono S4.le) r4 ((((r1.mono S2.le).mono S0.le).mono S3.le).mono S4.le) fun g5 H5 S5 W5 => ?_
    have E5 := E4.mono S5.le
    refine ⟨v2, [], rfl, ?_⟩
    refine sndE L env o2 g5 s5 σ H5 y2 s6 e6 W5 E5 _ fun u2 g6 H6 S6 W6 r6 => ?_
    have E6 := E5.mono S6.le
    refine sndE L env i2 g6 s6 σ H6 z2 s7 e7 W6 E6 _ fun w2 g7 H7 S7 W7 r7 => ?_
    have E7 := E6.mono S7.le
    have r2' := (((((r2.mono S0.le).mono S3.le).mono S4.le).mono S5.le).mono S6.le).mono S7.le
    refine setiF_ok (b := C.bs) e8 W7 (r6.mono S7.le) r7 r2' fun g8 H8 S8 W8 => ⟨rfl, ?_⟩
    exact q σ g8 H8 (S1.trans W W1 (S2.trans W1 W2 (S0.trans W2 W0 (S3.trans W0 W3 (S4.trans W3 W4 (S5.trans W4 W5 (S6.trans W5 W6 (S7.trans W6 W7 S8)))))))) W8 (E7.mono S8.le)
  | .sfld cn o f e => fun g s env σ H rs h W E D Wx q => by
    simp only [exS] at h
    obtain ⟨⟨x, s1⟩, e1, u⟩ := Option.bind_eq_some_iff.mp h
    obtain ⟨⟨y, s2⟩, e2, u⟩ := Option.bind_eq_some_iff.mp u
    clear h
    simp only at u
    split at u
    · rename_i n
      split at u
      · rename_i cc fs hx
        split at u
        · rename_i hc
          obtain ⟨rfl, hlen⟩ := hc
          cases u
          intro na
          refine sndE L env e g s σ H x s1 e1 W E _ fun v g1 H1 S1 W1 r1 => sndE L env o g1 s1 σ H1 _ s2 e2 W1 (E.mono S1.le) _ fun u2 g2 H2 S2 W2 r2 => ?_
          obtain ⟨a, C', dx, vs, h1, h2, rfl, h3, h4, h5, h6⟩ := W2.objI hx
          have := r2.at_ h1
          subst this
          have hv := r1.mono S2.le
          have hp := putF_rep f hv h6
          have hp5 : ∀ p ∈ putF f v vs, NoAttr c.K (cAd c.K cc) p.1 := fun p hpm => by
            rcases putF_mem hpm with hm | hm
            · rw [hm]; exact na
            · exact h5 p hm
          obtain ⟨S3, W3⟩ := W2.write (b := C.bs) hx rfl h1 (o := .ins (cAd c.K cc) dx (putF f v vs)) (q := .ins cc (putFD f x fs)) ⟨h3, h4, hp5, hp⟩
          refine ⟨a, _, dx, vs, rfl, h2, h4, na, ?_, q σ g2 _ (S1.trans W W1 (S2.trans W1 W2 S3)) W3 (((E.mono S1.le).mono S2.le).mono S3.le)⟩
          rw [repM_len h6]; exact hlen
        · cases u
      · cases u
    · cases u
  | .asg t e => fun g s env σ H rs h W E D Wx q => by
    simp only [exS] at h
    obtain ⟨⟨x, s1⟩, e1, h⟩ := Option.bind_eq_some_iff.mp h
    obtain ⟨env1, e2, h⟩ := Option.map_eq_some_iff.mp h
    cases h
    exact sndE L env e g s σ H x s1 e1 W E _ fun v g1 H1 S1 W1 r1 => ok_G t x env env1 σ v H1 g1 s1 e2 W1 (E.mono S1.le) r1 _ fun σ' E' => q σ' g1 H1 S1 W1 E'
  | .par i j a b => fun g s env σ H rs h W E D Wx q => by
    simp only [exS] at h
    obtain ⟨⟨x, s1⟩, e1, h⟩ := Option.bind_eq_some_iff.mp h
    obtain ⟨⟨y, s2⟩, e2, h⟩ := Option.map_eq_some_iff.mp h
    cases h
    refine sndE L env a g s σ H x s1 e1 W E _ fun v g1 H1 S1 W1 r1 => sndE L env b g1 s1 σ H1 y _ e2 W1 (E.mono S1.le) _ fun u g2 H2 S2 W2 r2 => ?_
    exact ⟨v, u, rfl, q _ g2 H2 (S1.trans W W1 S2) W2 (EnR.set r2 j (EnR.set (r1.mono S2.le) i ((E.mono S1.le).mono S2.le)))⟩
  | .seti o i e => fun g s env σ H rs h W E D Wx q => by
    simp only [exS] at h
    obtain ⟨⟨x, s1⟩, e1, h⟩ := Option.bind_eq_some_iff.mp h
    obtain ⟨⟨y, s2⟩, e2, h⟩ := Option.bind_eq_some_iff.mp h
    obtain ⟨⟨z, s3⟩, e3, h⟩ := Option.bind_eq_some_iff.mp h
    refine sndE L env e g s σ H x s1 e1 W E _ fun v g1 H1 S1 W1 r1 => sndE L env o g1 s1 σ H1 y s2 e2 W1 (E.mono S1.le) _ fun u g2 H2 S2 W2 r2 => sndE L env i g2 s2 σ H2 z s3 e3 W2 ((E.mono S1.le).mono S2.le) _ fun w g3 H3 S3 W3 r3 => ?_
    simp only at h
    split at h
    · split at h
      · rename_i n k xs hx
        split at h
        · rename_i j hj
          cases h
          obtain ⟨a, vs, h1, h2, h3⟩ := W3.objL hx
          have := (r2.mono S3.le).at_ h1
          subst this
          cases r3
          have r1' := (r1.mono S2.le).mono S3.le
          obtain ⟨S4, W4⟩ := W3.write (b := C.bs) hx rfl h1 (o := .lst (vs.set j v)) (q := .lst (xs.set j x)) (h3.set r1' j)
          exact ⟨a, vs, _, j, rfl, rfl, h2, by rw [h3.length]; exact hj, q σ g3 _ (((S1.trans W W1 S2).trans W W2 S3).trans W W3 S4) W4 (((E.mono S1.le).mono S2.le).mono S3.le)⟩
        · cases h
      · cases h
    · cases h
  | .dput o k e => fun g s env σ H rs h W E D Wx q => by
    simp only [exS] at h
    obtain ⟨⟨x, s1⟩, e1, h⟩ := Option.bind_eq_some_iff.mp h
    obtain ⟨⟨y, s2⟩, e2, h⟩ := Option.bind_eq_some_iff.mp h
    obtain ⟨⟨z, s3⟩, e3, h⟩ := Option.bind_eq_some_iff.mp h
    refine sndE L env e g s σ H x s1 e1 W E _ fun v g1 H1 S1 W1 r1 => sndE L env o g1 s1 σ H1 y s2 e2 W1 (E.mono S1.le) _ fun u g2 H2 S2 W2 r2 => sndE L env k g2 s2 σ H2 z s3 e3 W2 ((E.mono S1.le).mono S2.le) _ fun w g3 H3 S3 W3 r3 => ?_
    have r1' := (r1.mono S2.le).mono S3.le
    have S03 := (S1.trans W W1 S2).trans W W2 S3
    have E3 := ((E.mono S1.le).mono S2.le).mono S3.le
    simp only at h
    split at h
    · split at h
      · rename_i n kvs hx
        split at h
        · obtain ⟨k', hk, h⟩ := Option.map_eq_some_iff.mp h
          cases h
          obtain ⟨a, vs, h1, h2, h3⟩ := W3.objK hx
          have := (r2.mono S3.le).at_ h1
          subst this
          obtain ⟨S4, W4⟩ := W3.write (b := C.bs) hx rfl h1 (o := .dK (putK vs k' v)) (q := .dK (putD kvs k' x)) (h3.put k' r1')
          exact ⟨a, _, rfl, .inl ⟨vs, k', h2, r3.key hk, by rw [h3.length]; exact szl' (by assumption), rfl⟩, q σ g3 _ (S03.trans W W3 S4) W4 E3⟩
        · cases h
      · rename_i n kvs hx
        split at h
        · split at h
          · obtain ⟨k', hk, h⟩ := Option.map_eq_some_iff.mp h
            cases h
            obtain ⟨a, vs, h1, h2, h3⟩ := W3.objT hx
            have := (r2.mono S3.le).at_ h1
            subst this
            cases r3 with
            | @tup p ws ds hp rp =>
              have ew := rp.keys hk
              subst ew
              obtain ⟨S4, W4⟩ := W3.write (b := C.bs) hx rfl h1 (o := .dT (putK vs k' v)) (q := .dT (putD kvs k' x)) (h3.put k' r1')
              exact ⟨a, _, rfl, .inr ⟨vs, k', p, h2, rfl, W3.hT hp, by rw [h3.length]; exact szl' (by assumption), rfl⟩, q σ g3 _ (S03.trans W W3 S4) W4 E3⟩
          · cases h
        · cases h
      · cases h
    · cases h
  | .expr e => fun g s env σ H rs h W E D Wx q => by
    simp only [exS] at h
    obtain ⟨⟨x, s1⟩, e1, h⟩ := Option.map_eq_some_iff.mp h
    cases h
    exact sndE L env e g s σ H x _ e1 W E _ fun v g1 H1 S1 W1 r1 => q σ g1 H1 S1 W1 (E.mono S1.le)
  | .ret e => fun g s env σ H rs h W E D Wx q => by
    simp only [exS] at h
    obtain ⟨⟨x, s1⟩, e1, h⟩ := Option.map_eq_some_iff.mp h
    cases h
    exact sndE L env e g s σ H x _ e1 W E _ fun v g1 H1 S1 W1 r1 => q v g1 H1 S1 W1 r1
  | .ife t a b => fun g s env σ H rs h W E D Wx q => by
    simp only [exS] at h
    obtain ⟨⟨x, s1⟩, e1, h⟩ := Option.bind_eq_some_iff.mp h
    refine sndT L env t g s σ H x s1 e1 W E _ fun g1 H1 S1 W1 => ?_
    cases x with
    | true =>
      rw [if_pos rfl]
      exact sndSs L a g1 s1 env σ H1 rs h W1 (E.mono S1.le) D Wx (q.after W S1 W1)
    | false =>
      rw [if_neg Bool.false_ne_true]
      exact sndSs L b g1 s1 env σ H1 rs h W1 (E.mono S1.le) D Wx (q.after W S1 W1)
  | .whl t b => while_go (fun env => sndT L env t) (sndSs L b) C.wf
  | .for_ t (.keys i) b => keys_go (sndSs L b)
  | .for_ t (.seq e) b => for_src L t (.seq e) b (sndSs L b) (fun _ => by simp) (fun _ => rfl) (fun _ _ => rfl)
  | .for_ t (.rng1 e) b => for_src L t (.rng1 e) b (sndSs L b) (fun _ => by simp) (fun _ => rfl) (fun _ _ => rfl)
  | .for_ t (.rng2 x y) b => for_src L t (.rng2 x y) b (sndSs L b) (fun _ => by simp) (fun _ => rfl) (fun _ _ => rfl)
  | .for_ t (.enum x) b => for_src L t (.enum x) b (sndSs L b) (fun _ => by simp) (fun _ => rfl) (fun _ _ => rfl)
  | .for_ t (.zip x y) b => for_src L t (.zip x y) b (sndSs L b) (fun _ => by simp) (fun _ => rfl) (fun _ _ => rfl)
  | .never => fun g s env σ H rs h W E D Wx q => by simp [exS] at h
  | .pass => fun g s env σ H rs h W E D Wx q => by
    cases h
    exact q σ g H .refl W E
  | .brk => fun g s env σ H rs h W E D Wx q => by
    cases h
    exact q σ g H .refl W E
  | .cont => fun g s env σ H rs h W E D Wx q => by
    cases h
    exact q σ g H .refl W E
theorem sndSs {C : Cc} {c : Rc} (L : Lk C c) : ∀ ss : Ss, OkS c.K C.bs (fun Wx => rdSs c Wx ss) (exSs C ss)
  | .nil => fun g s env σ H rs h W E D Wx q => by
    cases h
    exact q σ g H .refl W E
  | .cons st ss => fun g s env σ H rs h W E D Wx q => by
    simp only [exSs] at h
    split at h
    · rename_i e1 s1 h1
      exact sndS L st g s env σ H _ h1 W E _ Wx fun σ1 g1 H1 S1 W1 E1 => sndSs L ss g1 s1 e1 σ1 H1 rs h W1 E1 D Wx (q.after W S1 W1)
    · rename_i r hr
      refine sndS L st g s env σ H rs h W E _ Wx ?_
      cases rs with
      | nx e s' => exact absurd h (hr e s')
      | rt d s' => exact q
      | bk d s' => exact q
      | ct d s' => exact q
      | ex c fs e s' => exact q
  | .frz i ss => fun g s env σ H rs h W E D Wx q => by
    simp only [exSs] at h
    obtain ⟨⟨e1, s1⟩, h1, h⟩ := Option.bind_eq_some_iff.mp h
    obtain ⟨g1, S1, W1, E1⟩ := frz_ok h1 W E
    exact sndSs L ss g1 s1 e1 σ H rs h W1 E1 D Wx (q.after W S1 W1)
end
end
end Fw

/-! Fw, part I: from the text to our syntax, rule by rule. -/
namespace Fw
open PySem PySem.Spec PyProof.Rows L2

/-! ### some rules that lack -/
theorem mul_one (l : Addr) (items : Array Value) (n : Nat) (dd : Option Addr) (sl : Array (Option Value)) (u : Tok) :
    Meets (Builtin.«tuple.__mul__» ⟨[.ref l, .int 1 u], []⟩) (fun _ R s => s.heap.get? l = some { cls := .type "tuple", dict := dd, data := .seq items n, slots := sl } ∧ R (.ok (.ret (Value.ref l))) s) :=
  .of_wp fun prog w A R s h => by
    obtain ⟨hp, g, d, tk, os⟩ := s
    obtain ⟨hl, h⟩ := h
    have f1 := AutoSeq1.idx_int
    wp_walk using wpAny_loadPart' hl
    repeat (first
      | (refine wpAny_ite_false (decide_eq_false (by decide)) ?_; wp_walk using wpAny_loadPart' hl)
      | (refine wpAny_ite_true (decide_eq_true (by simp)) ?_; wp_walk using wpAny_loadPart' hl))
    all_goals (first | exact ⟨_, rfl, h⟩ | skip)
section
variable {X : Cx} {W : WX} {k : Nat} {fx : Nat → List D → Sto → Option (Rv × Sto)} {ar : Nat → Nat} {pos p1 p2 p3 : Pos}
theorem op_rep1 : OpR X (binaryOp .Mult) (rRep1 X.K) := by
  intro pins s σ H x y v u Q I rx ry h
  obtain ⟨l, xs, rfl, rfl, hT, q⟩ := h
  cases rx
  obtain ⟨t, rfl⟩ := ry
  obtain ⟨its, r, ⟨⟨cls, dd, data, sl⟩, ho, hc, n, hd⟩, hs⟩ := I.tuple hT
  simp only at hc hd
  subst hc hd
  refine wpAny_binaryOp_repeat_ref (T := "tuple") (U := "int") (by decide) ⟨_, ho, rfl⟩ (fun s' => typeIs_int s' 1 t) noFill_tuple_mul F.fills_int_mul F.slot_int_rmul repeat_tuple F.slot_int_index.lookup
    (call_meets F.slot_int_rmul (typeIs_int s 1 t) F.entry_int_rmul (F.args_int_rmul_2 _ _) (int_rmul_tuple 1 t l its.toArray n dd sl) ⟨ho, rfl, ⟨_, ho, rfl⟩, ?_⟩)
  exact call_meets F.slot_tuple_mul ⟨_, ho, rfl⟩ F.entry_tuple_mul (F.args_tuple_mul_2 _ _) (mul_one l its.toArray n dd sl t) ⟨ho, ⟨.ref l, H, I, rfl, q⟩⟩
/-- a list or a tuple, gone through -/
theorem pi_seq {tg l : Expr} {tl : TE} (hl : PE X l tl) : PI X tg l (iSeq X.K tl) := by
  refine ⟨fun pins s σ H R I h => thn (hl.run pins s σ H _ I h) fun v s1 q0 => ?_⟩
  obtain ⟨x, H1, I1, r1, a, rfl, q1⟩ := q0
  cases r1
  have new : ∀ b ∈ [s1.heap.objs.size], FpOk X pins H1 b := fun b hb => by
    rw [List.mem_singleton.mp hb]
    exact I1.fpOk (Nat.le_refl _) (I1.hok.fresh (Nat.le_refl _))
  rcases q1 with ⟨⟨xs, hq⟩, q⟩ | ⟨⟨xs, hq⟩, q⟩
  · obtain ⟨its, _, pl, _⟩ := I1.list hq
    exact wpAny_pyIter_list pl.isList ⟨_, [s1.heap.objs.size], _, _, H1, rfl, I1.kept (t' := s1.toks) (fun _ _ e => Heap.get?_push_of_some _ e), turn_list a _, ⟨_, Heap.get?_push_size _ rfl, rfl, rfl⟩, new, q⟩
  · obtain ⟨its, _, pl, _⟩ := I1.tuple hq
    exact wpAny_pyIter_tuple (show s1.heap.IsTuple a its.toArray from pl) ⟨_, [s1.heap.objs.size], _, _, H1, rfl, I1.kept (t' := s1.toks) (fun _ _ e => Heap.get?_push_of_some _ e), turn_tuple a _, ⟨_, Heap.get?_push_size _ rfl, rfl, rfl⟩, new, q⟩

/-! ### operators -/
def opOf : Op → Operator
  | .add => .Add
  | .sub => .Sub
  | .mul => .Mult
  | .fdiv => .FloorDiv
  | .mod => .Mod
  | .pow => .Pow
  | .shl => .LShift
theorem o_bin : ∀ o : Op, OpR X (binaryOp (opOf o)) (rBin X.K o)
  | .add => op_add.or (op_add_str.or (op_catA.or op_cat))
  | .sub => op_sub
  | .mul => op_mul.or (op_repT.or op_rep1)
  | .fdiv => op_fdivN
  | .mod => op_modN
  | .pow => op_pow
  | .shl => op_shl
def cpOf : Cp → CmpOp
  | .eq => .Eq
  | .ne => .NotEq
  | .lt => .Lt
  | .le => .LtE
  | .gt => .Gt
  | .ge => .GtE
  | .isN => .Is
  | .notN => .IsNot
  | .isin => .In
  | .notin => .NotIn
  | .eqD => .Eq
  | .neD => .NotEq
theorem Room.u64 (hr : Room k X.A) : X.A.units + 64 < cLine := by have := hr.un; omega
theorem Room.u65 (hr : Room k X.A) : X.A.units + 65 < cLine := by have := hr.un; omega
theorem o_cmp (hr : Room k X.A) : ∀ o : Cp, OpR X (compareOp (cpOf o)) (rCmp X.K o)
  | .eq => op_eq
  | .ne => op_ne
  | .lt => op_lt
  | .le => op_le
  | .gt => op_gt
  | .ge => op_ge
  | .isN => op_isN
  | .notN => op_notN
  | .isin => op_in_seq.or (op_inD (Room.u65 hr))
  | .notin => op_notIn_seq.or (op_notInD (Room.u65 hr))
  | .eqD => op_eqD (Room.u64 hr)
  | .neD => op_neD (Room.u64 hr)
theorem o_b1 (hc : X.calm = true) : (∀ f : B1, match f with
    | .len => CallR X (.builtin "len") (rB1 X.K .len)
    | .abs => CallR X (.builtin "abs") (rB1 X.K .abs)
    | .int => CallR X (.type "int") (rB1 X.K .int)
    | .bool => CallR X (.type "bool") (rB1 X.K .bool)
    | .sum => CallR X (.builtin "sum") (rB1 X.K .sum)
    | .all => CallR X (.builtin "all") (rB1 X.K .all)
    | .any => CallR X (.builtin "any") (rB1 X.K .any)
    | .tup => CallR X (.type "tuple") (rB1 X.K .tup)
    | .lst => CallR X (.type "list") (rB1 X.K .lst))
  | .len => call_len
  | .abs => call_abs
  | .int => call_int1
  | .bool => call_bool1
  | .sum => cr_sum hc
  | .all => cr_all hc
  | .any => cr_any hc
  | .tup => call_tuple_of
  | .lst => call_list_of

/-! ### expressions -/
variable {a b d e f : Expr} {es : List Expr} {A B C : E} {Es' : Es}
theorem d_var {i : Nat} {x : Str} (hN : X.N[i]? = some x) (hv : Vis X.env.scope x := by first | exact Or.inl rfl | exact Or.inr (Or.inl rfl) | exact Or.inr (Or.inr rfl)) (hd : (x == ("__debug__" : Str)) = false := by decide) (hcd : (x == ("__classdict__" : Str)) = false := by decide) : PE X (.Name x pos) (rdE ⟨X.K, fx, ar⟩ (.var i)) := pe_var hN hv hd hcd
theorem d_none {j : Nat} : PE X (.Constant .none j pos) (rdE ⟨X.K, fx, ar⟩ .non) := pe_non
theorem d_bl {j : Nat} {x : Bool} : PE X (.Constant (.bool x) j pos) (rdE ⟨X.K, fx, ar⟩ (.bl x)) := pe_bl
theorem d_int {j : Nat} {x : Int} : PE X (.Constant (.int x) j pos) (rdE ⟨X.K, fx, ar⟩ (.int x)) := pe_int
theorem d_str {j : Nat} {x : Str} : PE X (.Constant (.str x) j pos) (rdE ⟨X.K, fx, ar⟩ (.str x)) := pe_str
theorem d_nil : PA X [] (rdEs ⟨X.K, fx, ar⟩ .nil) := pa_nil
theorem d_cons (h : PE X e (rdE ⟨X.K, fx, ar⟩ A)) (h2 : PA X es (rdEs ⟨X.K, fx, ar⟩ Es')) (hs : starEach (e :: es) X.env = (false, eval e X.env) :: starEach es X.env := by rfl) : PA X (e :: es) (rdEs ⟨X.K, fx, ar⟩ (.cons A Es')) := pa_cons h h2 hs
theorem d_tup {j : Nat} (h : PA X es (rdEs ⟨X.K, fx, ar⟩ Es')) : PE X (.Tuple es j pos) (rdE ⟨X.K, fx, ar⟩ (.tup Es')) := pe_tup h
theorem d_lst (h : PA X es (rdEs ⟨X.K, fx, ar⟩ Es')) : PE X (.List es pos) (rdE ⟨X.K, fx, ar⟩ (.lst Es')) := pe_lst h
theorem d_newL (h : PA X es (rdEs ⟨X.K, fx, ar⟩ Es')) : PE X (.List es pos) (rdE ⟨X.K, fx, ar⟩ (.newL Es')) := pe_lst h
theorem d_newK : PE X (.Dict [] [] pos) (rdE ⟨X.K, fx, ar⟩ .newK) := pe_dnewK
theorem d_newT : PE X (.Dict [] [] pos) (rdE ⟨X.K, fx, ar⟩ .newT) := pe_dnewT
theorem d_ds0 : PPs X pos [] [] (rdDs ⟨X.K, fx, ar⟩ [] .nil) := pps_nil
theorem d_ds {x : Str} {j : Nat} {ks : List (Option Expr)} {vs : List Expr} {kk : List Str} (h : PE X e (rdE ⟨X.K, fx, ar⟩ A)) (h2 : PPs X pos ks vs (rdDs ⟨X.K, fx, ar⟩ kk Es')) : PPs X pos (some (.Constant (.str x) j p1) :: ks) (e :: vs) (rdDs ⟨X.K, fx, ar⟩ (x :: kk) (.cons A Es')) := pps_cons pe_str h h2
theorem d_disp {ks : List (Option Expr)} {vs : List Expr} {kk : List Str} (h : PPs X pos ks vs (rdDs ⟨X.K, fx, ar⟩ kk Es')) (hall : ks.all (·.isSome) = true := by rfl) (hl : ks.length = vs.length := by rfl) (h0 : ks ≠ [] := by intro z; cases z) (h15 : ks.length ≤ 15 := by decide) :
    PE X (.Dict ks vs pos) (rdE ⟨X.K, fx, ar⟩ (.disp kk Es')) := pe_disp h hall hl h0 h15
theorem d_bin {o : Op} {op : Operator} (ho : op = opOf o) (ha : PE X a (rdE ⟨X.K, fx, ar⟩ A)) (hb : PE X b (rdE ⟨X.K, fx, ar⟩ B)) : PE X (.BinOp a op b pos) (rdE ⟨X.K, fx, ar⟩ (.bin o A B)) := by
  subst ho
  exact pe_op (o_bin o) ha hb
theorem d_cmp {o : Cp} {op : CmpOp} (hr : Room k X.A) (ho : op = cpOf o) (ha : PE X a (rdE ⟨X.K, fx, ar⟩ A)) (hb : PE X b (rdE ⟨X.K, fx, ar⟩ B)) (hm : behindInMarks op b = false := by rfl) : PE X (.Compare a [op] [b] pos) (rdE ⟨X.K, fx, ar⟩ (.cmp o A B)) := by
  subst ho
  exact pe_cmpR (o_cmp hr o) ha hb hm
theorem dt_cmp {o : Cp} {op : CmpOp} (hr : Room k X.A) (ho : op = cpOf o) (ha : PE X a (rdE ⟨X.K, fx, ar⟩ A)) (hb : PE X b (rdE ⟨X.K, fx, ar⟩ B)) (hm : behindInMarks op b = false := by rfl) : PT X (.Compare a [op] [b] pos) (rdT ⟨X.K, fx, ar⟩ (.val (.cmp o A B))) := by
  subst ho
  exact pt_cmpR (o_cmp hr o) ha hb hm
theorem d_chn {o o' : Cp} {op op' : CmpOp} (hr : Room k X.A) (ho : op = cpOf o) (ho' : op' = cpOf o') (ha : PE X a (rdE ⟨X.K, fx, ar⟩ A)) (hb : PE X b (rdE ⟨X.K, fx, ar⟩ B)) (hd : PE X d (rdE ⟨X.K, fx, ar⟩ C)) (hm : lastMarks [op, op'] [b, d] = false := by with_unfolding_all rfl) :
    PE X (.Compare a [op, op'] [b, d] pos) (rdE ⟨X.K, fx, ar⟩ (.chn o o' A B C)) := by
  subst ho ho'
  exact pe_chain (o_cmp hr o) (o_cmp hr o') ha hb hd hm
theorem dt_chn {o o' : Cp} {op op' : CmpOp} (hr : Room k X.A) (ho : op = cpOf o) (ho' : op' = cpOf o') (ha : PE X a (rdE ⟨X.K, fx, ar⟩ A)) (hb : PE X b (rdE ⟨X.K, fx, ar⟩ B)) (hd : PE X d (rdE ⟨X.K, fx, ar⟩ C)) (hm : lastMarks [op, op'] [b, d] = false := by with_unfolding_all rfl) :
    PT X (.Compare a [op, op'] [b, d] pos) (rdT ⟨X.K, fx, ar⟩ (.val (.chn o o' A B C))) := by
  subst ho ho'
  exact pt_chain (o_cmp hr o) (o_cmp hr o') ha hb hd hm
theorem un_neg0 : UnR X (unaryOp .USub) (fun y H Q => rBin X.K .sub (.int 0) y H Q) := by
  intro pins s σ H x v Q I rx h
  obtain ⟨i, j, e1, rfl, q⟩ := h
  cases e1
  obtain ⟨t, rfl⟩ := rx
  have q : Q (.int (-j)) H := by rw [← Int.zero_sub]; exact q
  exact neg_int ⟨.int (-j), H, I.tok _, ⟨_, rfl⟩, q⟩
theorem d_neg (ha : PE X a (rdE ⟨X.K, fx, ar⟩ A)) : PE X (.UnaryOp .USub a pos) (rdE ⟨X.K, fx, ar⟩ (.bin .sub (.int 0) A)) :=
  ⟨fun pins s σ H Q I h => (pe_un (ta := rdE ⟨X.K, fx, ar⟩ A) (r := fun y H Q => rBin X.K .sub (.int 0) y H Q) un_neg0 ha).run pins s σ H Q I h⟩
theorem d_negc {n : Int} {j : Nat} : PE X (.UnaryOp .USub (.Constant (.int n) j p1) pos) (rdE ⟨X.K, fx, ar⟩ (.int (-n))) :=
  ⟨fun pins s σ H Q I h => (pe_un un_neg pe_int).run pins s σ H Q I ⟨n, rfl, h⟩⟩
theorem d_not (ha : PE X a (rdE ⟨X.K, fx, ar⟩ A)) : PE X (.UnaryOp .Not a pos) (rdE ⟨X.K, fx, ar⟩ (.not A)) := pe_not ha
theorem d_one {op : BoolOp} (ha : PE X a (rdE ⟨X.K, fx, ar⟩ A)) : PE X (.BoolOp op [a] pos) (rdE ⟨X.K, fx, ar⟩ A) := pe_one ha
theorem d_and {rest : List Expr} (ha : PE X a (rdE ⟨X.K, fx, ar⟩ A)) (hb : PE X (.BoolOp .And (b :: rest) pos) (rdE ⟨X.K, fx, ar⟩ B)) : PE X (.BoolOp .And (a :: b :: rest) pos) (rdE ⟨X.K, fx, ar⟩ (.and A B)) := pe_and ha hb
theorem d_or {rest : List Expr} (ha : PE X a (rdE ⟨X.K, fx, ar⟩ A)) (hb : PE X (.BoolOp .Or (b :: rest) pos) (rdE ⟨X.K, fx, ar⟩ B)) : PE X (.BoolOp .Or (a :: b :: rest) pos) (rdE ⟨X.K, fx, ar⟩ (.or A B)) := pe_or ha hb
theorem d_ife {t : T} (ht : PT X d (rdT ⟨X.K, fx, ar⟩ t)) (ha : PE X a (rdE ⟨X.K, fx, ar⟩ A)) (hb : PE X b (rdE ⟨X.K, fx, ar⟩ B)) : PE X (.IfExp d a b pos) (rdE ⟨X.K, fx, ar⟩ (.ife t A B)) := pe_ifExp ht ha hb
theorem d_idx (ha : PE X a (rdE ⟨X.K, fx, ar⟩ A)) (hb : PE X b (rdE ⟨X.K, fx, ar⟩ B)) (hs : PlainIx b := by intro _ _; rfl) : PE X (.Subscript a b pos) (rdE ⟨X.K, fx, ar⟩ (.idx A B)) := pe_ix ix_seq ha hb hs
theorem d_dget (hr : Room k X.A) (ha : PE X a (rdE ⟨X.K, fx, ar⟩ A)) (hb : PE X b (rdE ⟨X.K, fx, ar⟩ B)) (hs : NoSl b := by intro _ _; rfl) : PE X (.Subscript a b pos) (rdE ⟨X.K, fx, ar⟩ (.dget A B)) := pe_dget (hu_of hr) ha hb hs
theorem dt_dnin (hr : Room k X.A) (ha : PE X a (rdE ⟨X.K, fx, ar⟩ A)) (hb : PE X b (rdE ⟨X.K, fx, ar⟩ B)) (hm : behindInMarks .NotIn b = false := by rfl) : PT X (.Compare a [.NotIn] [b] pos) (rdT ⟨X.K, fx, ar⟩ (.val (.dnin A B))) := pt_cmp (pc_dnotin (hu_of hr) ha hb) hm
theorem dt_din (hr : Room k X.A) (ha : PE X a (rdE ⟨X.K, fx, ar⟩ A)) (hb : PE X b (rdE ⟨X.K, fx, ar⟩ B)) (hm : behindInMarks .In b = false := by rfl) : PT X (.Compare a [.In] [b] pos) (rdT ⟨X.K, fx, ar⟩ (.val (.din A B))) := pt_cmp (pc_din (hu_of hr) ha hb) hm
theorem d_o0 : PO X none (rdO ⟨X.K, fx, ar⟩ .none) := po_none
theorem d_o1 (h : PE X e (rdE ⟨X.K, fx, ar⟩ A)) : PO X (some e) (rdO ⟨X.K, fx, ar⟩ (.some A)) := po_some h
theorem d_slc {lo hi : Option Expr} {L U : Oe} (ha : PE X a (rdE ⟨X.K, fx, ar⟩ A)) (hl : PO X lo (rdO ⟨X.K, fx, ar⟩ L)) (hh : PO X hi (rdO ⟨X.K, fx, ar⟩ U)) : PE X (.Subscript a (.Slice lo hi none p2) pos) (rdE ⟨X.K, fx, ar⟩ (.slc A L U)) := pe_slice (sl_list.or sl_tupA) ha hl hh

/-! ### calls -/
/-- a def that is called by its name -/
def Ca (P : Program) (w : World) (K : PySem.W.Frag) (mg : Str → Option Value) (base : Heap) (k : Nat) (x : Str) (sp : Sp) : Prop :=
  ∃ (f : Addr) (fd : FuncData) (ps : List Str), FnOk P w K mg base (L2.CX P w) k f fd ps sp ∧ mg x = some (.ref f) ∧ PySem.W.keepIn K (.ref f) = true ∧ Binds K fd ps []
/-- .. with keywords -/
def Ck (P : Program) (w : World) (K : PySem.W.Frag) (mg : Str → Option Value) (base : Heap) (k : Nat) (x : Str) (sp : Sp) (ks : List Str) (na : Nat) (perm : List Nat) : Prop :=
  ∃ (f : Addr) (fd : FuncData) (ps : List Str) (g : List Value → List Value → List Value), FnOk P w K mg base (L2.CX P w) k f fd ps sp ∧ mg x = some (.ref f) ∧ PySem.W.keepIn K (.ref f) = true ∧ KBinds K fd ps ks g (permL .non na perm)
theorem vals_get {vs : List V} {us : List Value} (r : Vals vs us) : ∀ j : Nat, RelV (vs.getD j .non) (us.getD j .none) := by
  induction r with
  | nil => intro j; rw [List.getD_nil, List.getD_nil]; rfl
  | cons h _ ih =>
    intro j
    cases j with
    | zero => exact h
    | succ j => rw [List.getD_cons_succ, List.getD_cons_succ]; exact ih j
theorem vals_app {vs zs : List V} {us ws : List Value} (r : Vals vs us) (r' : Vals zs ws) : Vals (vs ++ zs) (us ++ ws) := by
  induction r with
  | nil => exact r'
  | cons h _ ih => exact .cons h ih
theorem vals_map {vs : List V} {us : List Value} (r : Vals vs us) : ∀ perm : List Nat, Vals (perm.map fun j => vs.getD j .non) (perm.map fun j => us.getD j .none)
  | [] => .nil
  | j :: t => .cons (vals_get r j) (vals_map r t)
theorem kb_of {K : PySem.W.Frag} {y qual : Str} {st : Stmt} {f : Addr} {fd : FuncData} {ps ks : List Str} {na : Nat} {perm : List Nat} (F : Fun K y qual st f fd) (hp : ps.length ≠ 0)
    (h : ∀ (kV doc pm : Value) (an : Option Addr) (cdv ct : Value) (us ws : List Value), us.length = na → na + ws.length = perm.length → bindArgs (PySem.W.fnOf y qual (defArgs st) (defBody st) (defScope st) .none kV doc pm an cdv ct) ⟨us, ks.zip ws⟩ = pure (ps.zip (perm.map fun j => (us ++ ws).getD j .none))) :
    KBinds K fd ps ks (permL .none na perm) (permL .non na perm) := by
  obtain ⟨oc, od, kV, doc, pm, an, cdv, ct, osl, rfl, lk, hcd⟩ := F.ex
  refine ⟨fun s us ws hK hl => ?_, fun {vs us zs ws} r r' => ?_⟩
  · unfold permL at hl ⊢
    by_cases hc : us.length = na ∧ na + ws.length = perm.length
    · rw [if_pos hc]
      exact .of_eq (h kV doc pm an cdv ct us ws hc.1 hc.2)
    · rw [if_neg hc] at hl
      exact absurd hl.symm hp
  · unfold permL
    rw [r.length, r'.length]
    by_cases hc : us.length = na ∧ na + ws.length = perm.length
    · rw [if_pos hc, if_pos hc]; exact vals_map (vals_app r r') perm
    · rw [if_neg hc, if_neg hc]; exact .nil
variable {x : Str} {i : Nat} {pp : Bool}
theorem d_call (h : Ca X.prog X.w X.K X.mg X.base k x (SpX X.K (ar i) (fx i))) (hr : Room k X.A) (hg : Gl X x) (ha : PA X (e :: es) (rdEs ⟨X.K, fx, ar⟩ Es')) (hdb : (x == ("__debug__" : Str)) = false := by decide) (he : starEach (e :: es) X.env = (false, eval e X.env) :: starEach es X.env := by rfl) (hpl : (backTo pos (starEach es X.env)).any (·.1) = false := by rfl) :
    PE X (.Call (.Name x p1) (e :: es) [] pos) (rdE ⟨X.K, fx, ar⟩ (.call pp i Es')) := by
  obtain ⟨f, fd, ps, G, hm, hk, hb⟩ := h
  exact pe_call G hr hg hm hk hb .nil passL ha hdb he hpl
theorem d_call0 (h : Ca X.prog X.w X.K X.mg X.base k x (SpX X.K (ar i) (fx i))) (hr : Room k X.A) (hg : Gl X x) (hdb : (x == ("__debug__" : Str)) = false := by decide) : PE X (.Call (.Name x p1) [] [] pos) (rdE ⟨X.K, fx, ar⟩ (.call pp i .nil)) := by
  obtain ⟨f, fd, ps, G, hm, hk, hb⟩ := h
  exact pe_call0 G hr hg hm hk hb .nil passL hdb
theorem d_k0 : PK X [] (rdEs ⟨X.K, fx, ar⟩ .nil) := pk_nil
theorem d_k {nm : Option Str} {kws : List Keyword} (h : PE X e (rdE ⟨X.K, fx, ar⟩ A)) (h2 : PK X kws (rdEs ⟨X.K, fx, ar⟩ Es')) : PK X (⟨nm, e, p2⟩ :: kws) (rdEs ⟨X.K, fx, ar⟩ (.cons A Es')) := pk_cons h h2
theorem d_callK {ks : List Str} {perm : List Nat} {kws : List Keyword} {Ks' : Es} (h : Ck X.prog X.w X.K X.mg X.base k x (SpX X.K (ar i) (fx i)) ks Es'.n perm) (hr : Room k X.A) (hg : Gl X x) (ha : PA X (e :: es) (rdEs ⟨X.K, fx, ar⟩ Es')) (hkw : PK X kws (rdEs ⟨X.K, fx, ar⟩ Ks'))
    (hall : (backToKw pos (keywordEach kws X.env)).all (·.1.isSome) = true := by rfl) (hks : (backToKw pos (keywordEach kws X.env)).filterMap (·.1) = ks := by rfl)
    (hdb : (x == ("__debug__" : Str)) = false := by decide) (he : starEach (e :: es) X.env = (false, eval e X.env) :: starEach es X.env := by rfl)
    (hpl : ((backTo pos (starEach (e :: es) X.env)).any (·.1) || (backToKw pos (keywordEach kws X.env)).any (·.1.isNone)) = false := by rfl) :
    PE X (.Call (.Name x p1) (e :: es) kws pos) (rdE ⟨X.K, fx, ar⟩ (.callK pp i perm Es' Ks')) := by
  obtain ⟨f, fd, ps, g, G, hm, hk, hb⟩ := h
  exact pe_callK G hr hg hm hk hb passL ha hkw hall hks hdb he hpl
/-- keywords alone -/
theorem d_callK0 {ks : List Str} {perm : List Nat} {kws : List Keyword} {Ks' : Es} (h : Ck X.prog X.w X.K X.mg X.base k x (SpX X.K (ar i) (fx i)) ks 0 perm) (hr : Room k X.A) (hg : Gl X x) (hkw : PK X kws (rdEs ⟨X.K, fx, ar⟩ Ks'))
    (hall : (backToKw pos (keywordEach kws X.env)).all (·.1.isSome) = true := by rfl) (hks : (backToKw pos (keywordEach kws X.env)).filterMap (·.1) = ks := by rfl) (hdb : (x == ("__debug__" : Str)) = false := by decide)
    (hpl : ((backTo pos (starEach [] X.env)).any (·.1) || (backToKw pos (keywordEach kws X.env)).any (·.1.isNone)) = false := by rfl) :
    PE X (.Call (.Name x p1) [] kws pos) (rdE ⟨X.K, fx, ar⟩ (.callK pp i perm .nil Ks')) := by
  obtain ⟨f, fd, ps, g, G, hm, hk, hb⟩ := h
  refine ⟨fun pins s σ H Q I h => wpAny_Call_Name_kw (ld_glob I hg hm ?_ hdb)⟩
  refine PySem.W.callWith_KW0 (h₀ := X.base) I.ok.mod.kin hk hall (thn (hkw.run pos pins s σ H _ I h) fun ws s2 ⟨zs, H2, I2, rz, q2⟩ => ⟨I2.kIn, ?_⟩) hpl
  rw [hks]
  exact run_fnk (us := []) (vs := []) G hr hb passL I2 .nil rz q2

/-! ### instances -/
def Cm (P : Program) (w : World) (K : PySem.W.Frag) (mg : Str → Option Value) (base : Heap) (k : Nat) (c : Str) (sp : Sp) : Prop :=
  ∃ (f : Addr) (fd : FuncData) (ps : List Str), FnOk P w K mg base (L2.CX P w) k f fd ps sp ∧ mg c = some (.ref (cAd K c)) ∧ Mk K (cAd K c) f ∧ Binds K fd ps []
def Cme (P : Program) (w : World) (K : PySem.W.Frag) (mg : Str → Option Value) (base : Heap) (k : Nat) (c m : Str) (sp : Sp) : Prop :=
  ∃ (f : Addr) (fd : FuncData) (ps : List Str), FnOk P w K mg base (L2.CX P w) k f fd ps sp ∧ Meth K (cAd K c) m f ∧ Binds K fd ps []
def CmK (P : Program) (w : World) (K : PySem.W.Frag) (mg : Str → Option Value) (base : Heap) (k : Nat) (c : Str) (sp : Sp) (ks : List Str) (perm : List Nat) : Prop :=
  ∃ (f : Addr) (fd : FuncData) (ps : List Str) (g : List Value → List Value → List Value), FnOk P w K mg base (L2.CX P w) k f fd ps sp ∧ mg c = some (.ref (cAd K c)) ∧ Mk K (cAd K c) f ∧ KBn K fd ps 1 ks g (permL .non 1 perm)
def CmeK (P : Program) (w : World) (K : PySem.W.Frag) (mg : Str → Option Value) (base : Heap) (k : Nat) (c m : Str) (sp : Sp) (ks : List Str) (perm : List Nat) : Prop :=
  ∃ (f : Addr) (fd : FuncData) (ps : List Str) (g : List Value → List Value → List Value), FnOk P w K mg base (L2.CX P w) k f fd ps sp ∧ Meth K (cAd K c) m f ∧ KBinds K fd ps ks g (permL .non 1 perm)
theorem kbn_of {K : PySem.W.Frag} {fd : FuncData} {ps ks : List Str} {n : Nat} {g : List Value → List Value → List Value} {perm : List Nat} (h : KBinds K fd ps ks g (permL .non n perm)) (hl : ∀ us ws : List Value, us.length = n → ws.length = ks.length → (g us ws).length = ps.length) : KBn K fd ps n ks g (permL .non n perm) :=
  ⟨fun s us ws X h1 h2 => h.to s us ws X (hl us ws h1 h2), h.rel⟩
theorem d_fld {f : Str} (he : PE X a (rdE ⟨X.K, fx, ar⟩ A)) (hb : attributeBase a f X.env (eval a X.env) = eval a X.env := by rfl) : PE X (.Attribute a f pos) (rdE ⟨X.K, fx, ar⟩ (.fld A f)) := pe_fld he hb
theorem d_mk {c : Str} (hc : ClsOk X.K c) (h : Cm X.prog X.w X.K X.mg X.base k c (SpX X.K (ar i) (fx i))) (hr : Room (k + 1) X.A) (hg : Gl X c) (ha : PA X (e :: es) (rdEs ⟨X.K, fx, ar⟩ Es')) (hdb : (c == ("__debug__" : Str)) = false := by decide) (he : starEach (e :: es) X.env = (false, eval e X.env) :: starEach es X.env := by rfl) (hpl : (backTo pos (starEach es X.env)).any (·.1) = false := by rfl) :
    PE X (.Call (.Name c p1) (e :: es) [] pos) (rdE ⟨X.K, fx, ar⟩ (.mk c i Es')) := by
  obtain ⟨f, fd, ps, F, hm, M, hb⟩ := h
  exact ⟨fun pins s σ H Q I h => (pe_make M F hr hg hm hb .nil passL ha hdb he hpl).run pins s σ H Q I (h hc)⟩
theorem d_meth {c m : Str} {pl : Sem Bool} {apos : Pos} (hc : ClsOk X.K c) (h : Cme X.prog X.w X.K X.mg X.base k c m (SpX X.K (ar i) (fx i))) (hr : Room k X.A) (hd : PE X d (rdE ⟨X.K, fx, ar⟩ A)) (ha : PA X (e :: es) (rdEs ⟨X.K, fx, ar⟩ Es'))
    (hst : starEach (e :: es) X.env = (false, eval e X.env) :: starEach es X.env := by rfl) (hpl : (backTo pos (starEach es X.env)).any (·.1) = false := by rfl)
    (ht : eval (.Call (.Attribute d m apos) (e :: es) [] pos) X.env = (do
      let ov ← eval d X.env
      standAt apos.atName
      let (f, first) ← holding [ov] (getMethod ov m pl)
      callWith pos f first (backTo pos (starEach (e :: es) X.env)) (backToKw pos (keywordEach [] X.env))) := by rfl) :
    PE X (.Call (.Attribute d m apos) (e :: es) [] pos) (rdE ⟨X.K, fx, ar⟩ (.meth c m i A Es')) := by
  obtain ⟨f, fd, ps, F, hm, hb⟩ := h
  exact pe_meth hd hc.cl hm F hr hb .nil passL ha hst hpl ht
theorem d_meth0 {c m : Str} {pl : Sem Bool} {apos : Pos} (hc : ClsOk X.K c) (h : Cme X.prog X.w X.K X.mg X.base k c m (SpX X.K (ar i) (fx i))) (hr : Room k X.A) (hd : PE X d (rdE ⟨X.K, fx, ar⟩ A))
    (ht : eval (.Call (.Attribute d m apos) [] [] pos) X.env = (do
      let ov ← eval d X.env
      standAt apos.atName
      let (f, first) ← holding [ov] (getMethod ov m pl)
      callWith pos f first (backTo pos (starEach [] X.env)) (backToKw pos (keywordEach [] X.env))) := by rfl) :
    PE X (.Call (.Attribute d m apos) [] [] pos) (rdE ⟨X.K, fx, ar⟩ (.meth c m i A .nil)) := by
  obtain ⟨f, fd, ps, F, hm, hb⟩ := h
  exact pe_meth0 hd hc.cl hm F hr hb .nil passL ht

theorem d_mkK0 {c : Str} {i : Nat} {ks : List Str} {perm : List Nat} {kws : List Keyword} {Ks' : Es} (hc : ClsOk X.K c) (h : CmK X.prog X.w X.K X.mg X.base k c (SpX X.K (ar i) (fx i)) ks perm) (hr : Room (k + 1) X.A) (hg : Gl X c) (hkw : PK X kws (rdEs ⟨X.K, fx, ar⟩ Ks')) (hn : Ks'.n = ks.length := by rfl)
    (hall : (backToKw pos (keywordEach kws X.env)).all (·.1.isSome) = true := by rfl) (hks : (backToKw pos (keywordEach kws X.env)).filterMap (·.1) = ks := by rfl) (hdb : (c == ("__debug__" : Str)) = false := by decide)
    (hpl : ((backTo pos (starEach [] X.env)).any (·.1) || (backToKw pos (keywordEach kws X.env)).any (·.1.isNone)) = false := by rfl) :
    PE X (.Call (.Name c p1) [] kws pos) (rdE ⟨X.K, fx, ar⟩ (.mkK c i perm .nil Ks')) := by
  obtain ⟨f, fd, ps, g, F, hm, M, hb⟩ := h
  refine ⟨fun pins s σ H Q I h => (pe_makeK0 M F hr hg hm hb passL hkw hall hks hdb hpl).run pins s σ H Q I ?_⟩
  have := h hc
  rw [← hn]; exact this
theorem d_methK0 {c m : Str} {i : Nat} {ks : List Str} {perm : List Nat} {kws : List Keyword} {Ks' : Es} {pl : Sem Bool} {apos : Pos} (hc : ClsOk X.K c) (h : CmeK X.prog X.w X.K X.mg X.base k c m (SpX X.K (ar i) (fx i)) ks perm) (hr : Room k X.A) (hd : PE X d (rdE ⟨X.K, fx, ar⟩ A)) (hkw : PK X kws (rdEs ⟨X.K, fx, ar⟩ Ks'))
    (hall : (backToKw pos (keywordEach kws X.env)).all (·.1.isSome) = true := by rfl) (hks : (backToKw pos (keywordEach kws X.env)).filterMap (·.1) = ks := by rfl)
    (hpl : ((backTo pos (starEach [] X.env)).any (·.1) || (backToKw pos (keywordEach kws X.env)).any (·.1.isNone)) = false := by rfl)
    (ht : eval (.Call (.Attribute d m apos) [] kws pos) X.env = (do
      let ov ← eval d X.env
      standAt apos.atName
      let (f, first) ← holding [ov] (getMethod ov m pl)
      callWith pos f first (backTo pos (starEach [] X.env)) (backToKw pos (keywordEach kws X.env))) := by rfl) :
    PE X (.Call (.Attribute d m apos) [] kws pos) (rdE ⟨X.K, fx, ar⟩ (.methK c m i perm A .nil Ks')) := by
  obtain ⟨f, fd, ps, g, F, hm, hb⟩ := h
  exact FwQ.pe_methK0 hd hc.cl hm F hr hb (fun σ => fun pins H s e s' I z => passL pins σ H s e s' I z) hkw hall hks hpl ht
theorem d_rev {j : Nat} {p4 : Pos} (h : PE X a (rdE ⟨X.K, fx, ar⟩ A)) : PE X (.Subscript a (.Slice none none (some (.UnaryOp .USub (.Constant (.int 1) j p1) p2)) p3) pos) (rdE ⟨X.K, fx, ar⟩ (.rev A)) := FwR.pe_rev h
theorem d_sorted (hr : Room k X.A) (hg : Gl X "sorted") (hm : X.mg "sorted" = none) (h : PE X e (rdE ⟨X.K, fx, ar⟩ A)) (hs : starEach [e] X.env = (false, eval e X.env) :: starEach [] X.env := by rfl) : PE X (.Call (.Name "sorted" p1) [e] [] pos) (rdE ⟨X.K, fx, ar⟩ (.sort A)) := pe_callB (FwR.cr_sortD (Room.u64 hr)) hg hm (by decide +kernel) (pa_cons h pa_nil hs) (he := hs)

/-! ### expressions that may raise -/
variable {XA XB : Xe}
theorem dx_e (h : PE X e (rdE ⟨X.K, fx, ar⟩ A)) : PE X e (rdX ⟨X.K, fx, ar⟩ W (.e A)) := h
theorem dx_call (tk : Takes X W) (h : Ca X.prog X.w X.K X.mg X.base k x (SpX X.K (ar i) (fx i))) (hr : Room k X.A) (hg : Gl X x) (ha : PA X (e :: es) (rdEs ⟨X.K, fx, ar⟩ Es')) (hdb : (x == ("__debug__" : Str)) = false := by decide) (he : starEach (e :: es) X.env = (false, eval e X.env) :: starEach es X.env := by rfl) (hpl : (backTo pos (starEach es X.env)).any (·.1) = false := by rfl) :
    PE X (.Call (.Name x p1) (e :: es) [] pos) (rdX ⟨X.K, fx, ar⟩ W (.call pp i Es')) := by
  obtain ⟨f, fd, ps, G, hm, hk, hb⟩ := h
  exact pe_callS G hr hg hm hk hb (passAt tk) ha hdb he hpl
theorem dx_meth {c m : Str} {pl : Sem Bool} {apos : Pos} (tk : Takes X W) (hc : ClsOk X.K c) (h : Cme X.prog X.w X.K X.mg X.base k c m (SpX X.K (ar i) (fx i))) (hr : Room k X.A) (hd : PE X d (rdE ⟨X.K, fx, ar⟩ A)) (ha : PA X (e :: es) (rdEs ⟨X.K, fx, ar⟩ Es'))
    (hst : starEach (e :: es) X.env = (false, eval e X.env) :: starEach es X.env := by rfl) (hpl : (backTo pos (starEach es X.env)).any (·.1) = false := by rfl)
    (ht : eval (.Call (.Attribute d m apos) (e :: es) [] pos) X.env = (do
      let ov ← eval d X.env
      standAt apos.atName
      let (f, first) ← holding [ov] (getMethod ov m pl)
      callWith pos f first (backTo pos (starEach (e :: es) X.env)) (backToKw pos (keywordEach [] X.env))) := by rfl) :
    PE X (.Call (.Attribute d m apos) (e :: es) [] pos) (rdX ⟨X.K, fx, ar⟩ W (.meth c m i A Es')) := by
  obtain ⟨f, fd, ps, F, hm, hb⟩ := h
  exact FwQ.pe_methS hd hc.cl hm F hr hb (passAt tk) ha hst hpl ht
theorem dx_meth0 {c m : Str} {pl : Sem Bool} {apos : Pos} (tk : Takes X W) (hc : ClsOk X.K c) (h : Cme X.prog X.w X.K X.mg X.base k c m (SpX X.K (ar i) (fx i))) (hr : Room k X.A) (hd : PE X d (rdE ⟨X.K, fx, ar⟩ A))
    (ht : eval (.Call (.Attribute d m apos) [] [] pos) X.env = (do
      let ov ← eval d X.env
      standAt apos.atName
      let (f, first) ← holding [ov] (getMethod ov m pl)
      callWith pos f first (backTo pos (starEach [] X.env)) (backToKw pos (keywordEach [] X.env))) := by rfl) :
    PE X (.Call (.Attribute d m apos) [] [] pos) (rdX ⟨X.K, fx, ar⟩ W (.meth c m i A .nil)) := by
  obtain ⟨f, fd, ps, F, hm, hb⟩ := h
  exact FwQ.pe_methS0 hd hc.cl hm F hr hb (passAt tk) ht
theorem dx_nil : PA X [] (rdXs ⟨X.K, fx, ar⟩ W .nil) := pa_nil
theorem dx_cons {Xs' : Xs} (h : PE X e (rdX ⟨X.K, fx, ar⟩ W XA)) (h2 : PA X es (rdXs ⟨X.K, fx, ar⟩ W Xs')) (hs : starEach (e :: es) X.env = (false, eval e X.env) :: starEach es X.env := by rfl) : PA X (e :: es) (rdXs ⟨X.K, fx, ar⟩ W (.cons XA Xs')) := pa_cons h h2 hs
theorem dx_tup {j : Nat} {Xs' : Xs} (h : PA X es (rdXs ⟨X.K, fx, ar⟩ W Xs')) : PE X (.Tuple es j pos) (rdX ⟨X.K, fx, ar⟩ W (.tup Xs')) := pe_tup h
theorem dx_lst {Xs' : Xs} (h : PA X es (rdXs ⟨X.K, fx, ar⟩ W Xs')) : PE X (.List es pos) (rdX ⟨X.K, fx, ar⟩ W (.lst Xs')) := pe_lst h
theorem dx_ife {t : T} (ht : PT X d (rdT ⟨X.K, fx, ar⟩ t)) (ha : PE X a (rdX ⟨X.K, fx, ar⟩ W XA)) (hb : PE X b (rdX ⟨X.K, fx, ar⟩ W XB)) : PE X (.IfExp d a b pos) (rdX ⟨X.K, fx, ar⟩ W (.ife t XA XB)) := pe_ifExp ht ha hb
theorem dx_idx (ha : PE X a (rdX ⟨X.K, fx, ar⟩ W XA)) (hb : PE X b (rdE ⟨X.K, fx, ar⟩ B)) (hs : PlainIx b := by intro _ _; rfl) : PE X (.Subscript a b pos) (rdX ⟨X.K, fx, ar⟩ W (.idx XA B)) := pe_ix ix_seq ha hb hs
theorem dx_bin {o : Op} {op : Operator} (ho : op = opOf o) (ha : PE X a (rdX ⟨X.K, fx, ar⟩ W XA)) (hb : PE X b (rdX ⟨X.K, fx, ar⟩ W XB)) : PE X (.BinOp a op b pos) (rdX ⟨X.K, fx, ar⟩ W (.bin o XA XB)) := by
  subst ho
  exact pe_op (o_bin o) ha hb

/-! ### built-in functions and methods -/
theorem d_len (hg : Gl X "len") (hm : X.mg "len" = none) (h : PE X e (rdE ⟨X.K, fx, ar⟩ A)) (hs : starEach [e] X.env = (false, eval e X.env) :: starEach [] X.env := by rfl) : PE X (.Call (.Name "len" p1) [e] [] pos) (rdE ⟨X.K, fx, ar⟩ (.b1 .len A)) := pe_callB call_len hg hm PySem.boot_len (pa_cons h pa_nil hs) (he := hs)
theorem d_abs (hg : Gl X "abs") (hm : X.mg "abs" = none) (h : PE X e (rdE ⟨X.K, fx, ar⟩ A)) (hs : starEach [e] X.env = (false, eval e X.env) :: starEach [] X.env := by rfl) : PE X (.Call (.Name "abs" p1) [e] [] pos) (rdE ⟨X.K, fx, ar⟩ (.b1 .abs A)) := pe_callB call_abs hg hm (by decide +kernel) (pa_cons h pa_nil hs) (he := hs)
theorem d_toInt (hg : Gl X "int") (hm : X.mg "int" = none) (h : PE X e (rdE ⟨X.K, fx, ar⟩ A)) (hs : starEach [e] X.env = (false, eval e X.env) :: starEach [] X.env := by rfl) : PE X (.Call (.Name "int" p1) [e] [] pos) (rdE ⟨X.K, fx, ar⟩ (.b1 .int A)) := pe_callTy call_int1 hg hm (by decide +kernel) (pa_cons h pa_nil hs) (he := hs)
theorem d_toBool (hg : Gl X "bool") (hm : X.mg "bool" = none) (h : PE X e (rdE ⟨X.K, fx, ar⟩ A)) (hs : starEach [e] X.env = (false, eval e X.env) :: starEach [] X.env := by rfl) : PE X (.Call (.Name "bool" p1) [e] [] pos) (rdE ⟨X.K, fx, ar⟩ (.b1 .bool A)) := pe_callTy call_bool1 hg hm (by decide +kernel) (pa_cons h pa_nil hs) (he := hs)
theorem d_sum (hc : X.calm = true) (hg : Gl X "sum") (hm : X.mg "sum" = none) (h : PE X e (rdE ⟨X.K, fx, ar⟩ A)) (hs : starEach [e] X.env = (false, eval e X.env) :: starEach [] X.env := by rfl) : PE X (.Call (.Name "sum" p1) [e] [] pos) (rdE ⟨X.K, fx, ar⟩ (.b1 .sum A)) := pe_callB (cr_sum hc) hg hm (by decide +kernel) (pa_cons h pa_nil hs) (he := hs)
theorem d_all (hc : X.calm = true) (hg : Gl X "all") (hm : X.mg "all" = none) (h : PE X e (rdE ⟨X.K, fx, ar⟩ A)) (hs : starEach [e] X.env = (false, eval e X.env) :: starEach [] X.env := by rfl) : PE X (.Call (.Name "all" p1) [e] [] pos) (rdE ⟨X.K, fx, ar⟩ (.b1 .all A)) := pe_callB (cr_all hc) hg hm (by decide +kernel) (pa_cons h pa_nil hs) (he := hs)
theorem d_any (hc : X.calm = true) (hg : Gl X "any") (hm : X.mg "any" = none) (h : PE X e (rdE ⟨X.K, fx, ar⟩ A)) (hs : starEach [e] X.env = (false, eval e X.env) :: starEach [] X.env := by rfl) : PE X (.Call (.Name "any" p1) [e] [] pos) (rdE ⟨X.K, fx, ar⟩ (.b1 .any A)) := pe_callB (cr_any hc) hg hm (by decide +kernel) (pa_cons h pa_nil hs) (he := hs)
theorem d_toTup (hg : Gl X "tuple") (hm : X.mg "tuple" = none) (h : PE X e (rdE ⟨X.K, fx, ar⟩ A)) (hs : starEach [e] X.env = (false, eval e X.env) :: starEach [] X.env := by rfl) : PE X (.Call (.Name "tuple" p1) [e] [] pos) (rdE ⟨X.K, fx, ar⟩ (.b1 .tup A)) := pe_callTy call_tuple_of hg hm (by decide +kernel) (pa_cons h pa_nil hs) (he := hs)
theorem d_toLst (hg : Gl X "list") (hm : X.mg "list" = none) (h : PE X e (rdE ⟨X.K, fx, ar⟩ A)) (hs : starEach [e] X.env = (false, eval e X.env) :: starEach [] X.env := by rfl) : PE X (.Call (.Name "list" p1) [e] [] pos) (rdE ⟨X.K, fx, ar⟩ (.b1 .lst A)) := pe_callTy call_list_of hg hm (by decide +kernel) (pa_cons h pa_nil hs) (he := hs)
theorem d_newLst (hg : Gl X "list") (hm : X.mg "list" = none) (h : PE X e (rdE ⟨X.K, fx, ar⟩ A)) (hs : starEach [e] X.env = (false, eval e X.env) :: starEach [] X.env := by rfl) : PE X (.Call (.Name "list" p1) [e] [] pos) (rdE ⟨X.K, fx, ar⟩ (.newLst A)) := pe_callTy call_list_of hg hm (by decide +kernel) (pa_cons h pa_nil hs) (he := hs)
theorem d_tupRg (hc : X.calm = true) (hg : Gl X "tuple") (hm : X.mg "tuple" = none) (hg2 : Gl X "range") (hm2 : X.mg "range" = none) (h : PE X e (rdE ⟨X.K, fx, ar⟩ A)) (hs : starEach [e] X.env = (false, eval e X.env) :: starEach [] X.env := by rfl) :
    PE X (.Call (.Name "tuple" p1) [.Call (.Name "range" p2) [e] [] p3] [] pos) (rdE ⟨X.K, fx, ar⟩ (.tupRg A)) := pe_tupRg hc hg hm (prg_1 hg2 hm2 h hs)
theorem d_lstRg (hc : X.calm = true) (hg : Gl X "list") (hm : X.mg "list" = none) (hg2 : Gl X "range") (hm2 : X.mg "range" = none) (h : PE X e (rdE ⟨X.K, fx, ar⟩ A)) (hs : starEach [e] X.env = (false, eval e X.env) :: starEach [] X.env := by rfl) :
    PE X (.Call (.Name "list" p1) [.Call (.Name "range" p2) [e] [] p3] [] pos) (rdE ⟨X.K, fx, ar⟩ (.lstRg A)) := pe_listRg hc hg hm (prg_1 hg2 hm2 h hs)
theorem d_newLstRg (hc : X.calm = true) (hg : Gl X "list") (hm : X.mg "list" = none) (hg2 : Gl X "range") (hm2 : X.mg "range" = none) (h : PE X e (rdE ⟨X.K, fx, ar⟩ A)) (hs : starEach [e] X.env = (false, eval e X.env) :: starEach [] X.env := by rfl) :
    PE X (.Call (.Name "list" p1) [.Call (.Name "range" p2) [e] [] p3] [] pos) (rdE ⟨X.K, fx, ar⟩ (.newLstRg A)) := pe_listRg hc hg hm (prg_1 hg2 hm2 h hs)
theorem d_max2 (hc : X.calm = true) (hg : Gl X "max") (hm : X.mg "max" = none) (h : PE X a (rdE ⟨X.K, fx, ar⟩ A)) (h2 : PE X b (rdE ⟨X.K, fx, ar⟩ B)) (hs : starEach [a, b] X.env = (false, eval a X.env) :: starEach [b] X.env := by rfl) (hs2 : starEach [b] X.env = (false, eval b X.env) :: starEach [] X.env := by rfl) (hpl : (backTo pos (starEach [b] X.env)).any (·.1) = false := by rfl) :
    PE X (.Call (.Name "max" p1) [a, b] [] pos) (rdE ⟨X.K, fx, ar⟩ (.max2 A B)) := pe_callB (call_max2 hc) hg hm (by decide +kernel) (pa_cons h (pa_cons h2 pa_nil hs2) hs) (he := hs) (hpl := hpl)
theorem d_isi {t : Ty} {y : Str} (hg : Gl X "isinstance") (hm : X.mg "isinstance" = none) (hgy : Gl X y) (hmy : X.mg y = none) (hy : bootBuiltins y = some (.type (tyN t))) (h : PE X e (rdE ⟨X.K, fx, ar⟩ A)) (hny : y ≠ "__name__" := by decide) (hdy : (y == ("__debug__" : Str)) = false := by decide)
    (hs : starEach [e, .Name y p2] X.env = (false, eval e X.env) :: starEach [.Name y p2] X.env := by rfl) : PE X (.Call (.Name "isinstance" p1) [e, .Name y p2] [] pos) (rdE ⟨X.K, fx, ar⟩ (.isI A t)) :=
  pe_callB call_isi hg hm (by decide +kernel) (pa_cons h (pa_cons (pe_bltn hgy hmy hy (show RelV (.ty (tyN t)) (.type (tyN t)) from rfl) hny hdy) pa_nil) hs) (he := hs)
theorem d_join (h : PE X a (rdE ⟨X.K, fx, ar⟩ A)) (h2 : PE X e (rdE ⟨X.K, fx, ar⟩ B)) (hs : starEach [e] X.env = [(false, eval e X.env)] := by rfl) (hb : attributeBase a "join" X.env (eval a X.env) = eval a X.env := by rfl) (hl : (p1.endLine == pos.line) = true := by rfl) : PE X (.Call (.Attribute a "join" p1) [e] [] pos) (rdE ⟨X.K, fx, ar⟩ (.join A B)) := pe_join h h2 hs hb hl
theorem d_pop (h : PE X a (rdE ⟨X.K, fx, ar⟩ A)) (hb : attributeBase a "pop" X.env (eval a X.env) = eval a X.env := by rfl) (hl : (p1.endLine == pos.line) = true := by rfl) : PE X (.Call (.Attribute a "pop" p1) [] [] pos) (rdE ⟨X.K, fx, ar⟩ (.pop A)) := pe_bm0 PySem.F.plainAttrs_list PySem.F.slot_list_pop PySem.F.type_list_pop mt_pop h hb hl
theorem d_popAt (h : PE X a (rdE ⟨X.K, fx, ar⟩ A)) (h2 : PE X e (rdE ⟨X.K, fx, ar⟩ B)) (hs : starEach [e] X.env = (false, eval e X.env) :: starEach [] X.env := by rfl) (hb : attributeBase a "pop" X.env (eval a X.env) = eval a X.env := by rfl) (hl : (p1.endLine == pos.line) = true := by rfl)
    (hf : ((backTo pos (starEach [e] X.env)).all (fun x => !x.1) && (backToKw pos (keywordEach [] X.env)).all (fun x => x.1.isSome) && decide (([e] : List Expr).length + ([] : List Keyword).length + (if ([] : List Keyword).isEmpty then 0 else 1) < 30)) = true := by rfl) : PE X (.Call (.Attribute a "pop" p1) [e] [] pos) (rdE ⟨X.K, fx, ar⟩ (.popAt A B)) :=
  pe_bm PySem.F.plainAttrs_list PySem.F.slot_list_pop PySem.F.type_list_pop mt_popAt h (pa_cons h2 pa_nil hs) hb hf hl hs
theorem d_app (h : PE X a (rdE ⟨X.K, fx, ar⟩ A)) (h2 : PE X e (rdE ⟨X.K, fx, ar⟩ B)) (hs : starEach [e] X.env = (false, eval e X.env) :: starEach [] X.env := by rfl) (hb : attributeBase a "append" X.env (eval a X.env) = eval a X.env := by rfl) (hl : (p1.endLine == pos.line) = true := by rfl)
    (hf : ((backTo pos (starEach [e] X.env)).all (fun x => !x.1) && (backToKw pos (keywordEach [] X.env)).all (fun x => x.1.isSome) && decide (([e] : List Expr).length + ([] : List Keyword).length + (if ([] : List Keyword).isEmpty then 0 else 1) < 30)) = true := by rfl) : PE X (.Call (.Attribute a "append" p1) [e] [] pos) (rdE ⟨X.K, fx, ar⟩ (.app A B)) :=
  pe_bm PySem.F.plainAttrs_list PySem.F.slot_list_append PySem.F.type_list_append mt_append h (pa_cons h2 pa_nil hs) hb hf hl hs
theorem d_ext (h : PE X a (rdE ⟨X.K, fx, ar⟩ A)) (h2 : PE X e (rdE ⟨X.K, fx, ar⟩ B)) (hs : starEach [e] X.env = (false, eval e X.env) :: starEach [] X.env := by rfl) (hb : attributeBase a "extend" X.env (eval a X.env) = eval a X.env := by rfl) (hl : (p1.endLine == pos.line) = true := by rfl)
    (hf : ((backTo pos (starEach [e] X.env)).all (fun x => !x.1) && (backToKw pos (keywordEach [] X.env)).all (fun x => x.1.isSome) && decide (([e] : List Expr).length + ([] : List Keyword).length + (if ([] : List Keyword).isEmpty then 0 else 1) < 30)) = true := by rfl) : PE X (.Call (.Attribute a "extend" p1) [e] [] pos) (rdE ⟨X.K, fx, ar⟩ (.ext A B)) :=
  pe_bm PySem.F.plainAttrs_list PySem.F.slot_list_extend PySem.F.type_list_extend mt_extend h (pa_cons h2 pa_nil hs) hb hf hl hs

/-! ### tests -/
variable {t u : T}
theorem dt_tru (h : PE X e (rdE ⟨X.K, fx, ar⟩ A)) (he : ∀ whole, isTrue e X.env whole = (do let v ← whole; standAt e.pos; holding [v] (truthy v)) := by intro _; rfl) : PT X e (rdT ⟨X.K, fx, ar⟩ (.tru A)) := pt_truth h he
theorem dt_not (h : PT X e (rdT ⟨X.K, fx, ar⟩ t)) : PT X (.UnaryOp .Not e pos) (rdT ⟨X.K, fx, ar⟩ (.not t)) := pt_not h
theorem dw_and1 (h : PT X e (rdT ⟨X.K, fx, ar⟩ t)) : PW X (.BoolOp .And [e] pos) (rdT ⟨X.K, fx, ar⟩ t) := pw_and1 h
theorem dw_or1 (h : PT X e (rdT ⟨X.K, fx, ar⟩ t)) : PW X (.BoolOp .Or [e] pos) (rdT ⟨X.K, fx, ar⟩ t) := pw_or1 h
theorem dw_and {rest : List Expr} (h : PT X a (rdT ⟨X.K, fx, ar⟩ t)) (h2 : PW X (.BoolOp .And (b :: rest) pos) (rdT ⟨X.K, fx, ar⟩ u)) : PW X (.BoolOp .And (a :: b :: rest) pos) (rdT ⟨X.K, fx, ar⟩ (.and t u)) := pw_and h h2
theorem dw_or {rest : List Expr} (h : PT X a (rdT ⟨X.K, fx, ar⟩ t)) (h2 : PW X (.BoolOp .Or (b :: rest) pos) (rdT ⟨X.K, fx, ar⟩ u)) : PW X (.BoolOp .Or (a :: b :: rest) pos) (rdT ⟨X.K, fx, ar⟩ (.or t u)) := pw_or h h2
theorem dt_bop (h : PW X e (rdT ⟨X.K, fx, ar⟩ t)) : PT X e (rdT ⟨X.K, fx, ar⟩ t) := h.pt

/-! ### what is gone through -/
variable {tg : Expr} {J : It}
theorem di_seq (h : PE X e (rdE ⟨X.K, fx, ar⟩ A)) : PI X tg e (rdI ⟨X.K, fx, ar⟩ (.seq A)) := pi_seq h
theorem di_rng1 (hg : Gl X "range") (hm : X.mg "range" = none) (h : PE X e (rdE ⟨X.K, fx, ar⟩ A)) (hs : starEach [e] X.env = [(false, eval e X.env)] := by rfl) : PI X tg (.Call (.Name "range" p1) [e] [] pos) (rdI ⟨X.K, fx, ar⟩ (.rng1 A)) := pi_range1 hg hm (pa_cons h pa_nil hs) hs
theorem di_rng2 (hg : Gl X "range") (hm : X.mg "range" = none) (h : PE X a (rdE ⟨X.K, fx, ar⟩ A)) (h2 : PE X b (rdE ⟨X.K, fx, ar⟩ B)) (hs : starEach [a, b] X.env = [(false, eval a X.env), (false, eval b X.env)] := by rfl) (hs2 : starEach [b] X.env = [(false, eval b X.env)] := by rfl) (hs3 : starEach [a, b] X.env = (false, eval a X.env) :: starEach [b] X.env := by rfl) : PI X tg (.Call (.Name "range" p1) [a, b] [] pos) (rdI ⟨X.K, fx, ar⟩ (.rng2 A B)) := pi_range2 hg hm (pa_cons h (pa_cons h2 pa_nil hs2) hs3) hs hs2
theorem di_zip {kk : Nat} {elts : List Expr} (hg : Gl X "zip") (hm : X.mg "zip" = none) (h : PE X a (rdE ⟨X.K, fx, ar⟩ A)) (h2 : PE X b (rdE ⟨X.K, fx, ar⟩ B)) (hs : starEach [a, b] X.env = (false, eval a X.env) :: starEach [b] X.env := by rfl) (hs2 : starEach [b] X.env = (false, eval b X.env) :: starEach [] X.env := by rfl) (hpl : (backTo pos (starEach [b] X.env)).any (·.1) = false := by rfl) :
    PI X (.Tuple elts kk p2) (.Call (.Name "zip" p1) [a, b] [] pos) (rdI ⟨X.K, fx, ar⟩ (.zip A B)) := FwR.pi_zipB hg hm (pa_cons h (pa_cons h2 pa_nil hs2) hs) hs hpl

theorem di_enum {kk : Nat} {elts : List Expr} (hg : Gl X "enumerate") (hm : X.mg "enumerate" = none) (h : PE X e (rdE ⟨X.K, fx, ar⟩ A)) (hs : starEach [e] X.env = (false, eval e X.env) :: starEach [] X.env := by rfl) (hs' : starEach [e] X.env = [(false, eval e X.env)] := by rfl) :
    PI X (.Tuple elts kk p2) (.Call (.Name "enumerate" p1) [e] [] pos) (rdI ⟨X.K, fx, ar⟩ (.enum A)) := FwR.pi_enumB hg hm (pa_cons h pa_nil hs) hs'

/-! ### targets -/
theorem dg_name {i : Nat} {x : Str} (hN : X.N.Nodup) (hi : X.N[i]? = some x) (hx : Loc X.env.scope x) (hf : X.fn x = true ∨ X.env.scope.names.lookup x = some .local := by first | exact .inl rfl | exact .inr rfl) : PG X (.Name x pos) (rdG X.K (.name i)) := pg_name hN hi hx hf
theorem dg_nil : PGs X [] (rdGs X.K .nil) := pgs_nil
theorem dg_cons {g : G} {gs : Gs} (h : PG X e (rdG X.K g)) (h2 : PGs X es (rdGs X.K gs)) (hs : (assignEach (e :: es) X.env).map (·.2) = assign e X.env :: (assignEach es X.env).map (·.2) := by rfl) : PGs X (e :: es) (rdGs X.K (.cons g gs)) := pgs_cons h h2 hs
theorem dg_tup {kk : Nat} {gs : Gs} (hc : X.calm = true) (h : PGs X es (rdGs X.K gs)) (hn : (assignEach es X.env).length = gs.n := by rfl) (hst : (assignEach es X.env).findIdx? (·.1) = none := by rfl) : PG X (.Tuple es kk pos) (rdG X.K (.tup gs)) := pg_tup hc h hn hst

/-! ### comprehensions -/
theorem dts_nil : PTs X [] (rdT ⟨X.K, fx, ar⟩ .yes) := pts_nil
theorem dts_one (h : PT X e (rdT ⟨X.K, fx, ar⟩ t)) : PTs X [e] (rdT ⟨X.K, fx, ar⟩ t) := pts_one h
section
variable {elt iter : Expr} {ifs : List Expr} {scope : Scope} {g : G} {spos py : Pos} {y : Str}
theorem d_lc (own : List (Str × Nat)) (hc : X.calm = true) (hN : X.N.Nodup) (ok : BlkOk X.N X.env.scope scope own) (hi : PI X tg iter (rdI ⟨X.K, fx, ar⟩ J))
    (hg : ∀ (s : Shared) (H : Hp) (C : Addr) (cl : List (Str × Addr)) (fp : List Addr), PG (X.blk s H scope (compEnvC scope cl C X.env) fp) tg (rdG X.K g)) (ht : ∀ (s : Shared) (H : Hp) (C : Addr) (cl : List (Str × Addr)) (fp : List Addr), PTs (X.blk s H scope (compEnvC scope cl C X.env) fp) ifs (rdT ⟨X.K, fx, ar⟩ t))
    (he : ∀ (s : Shared) (H : Hp) (C : Addr) (cl : List (Str × Addr)) (fp : List Addr), PE (X.blk s H scope (compEnvC scope cl C X.env) fp) elt (rdE ⟨X.K, fx, ar⟩ A)) (hs : ∀ x, foldedSetIterable iter X.env x = pure x := by intro _; rfl) :
    PE X (.ListComp elt [⟨tg, iter, ifs, 0⟩] scope pos) (rdE ⟨X.K, fx, ar⟩ (.lc g J t A (own.map (·.2)))) := pe_lc hc hN hi ok hg ht he hs
theorem d_newLc {own : List Nat} (h : PE X e (rdE ⟨X.K, fx, ar⟩ (.lc g J t A own))) : PE X e (rdE ⟨X.K, fx, ar⟩ (.newLc g J t A own)) := h
theorem ds_setLc {i : Nat} (own : List (Str × Nat)) (hc : X.calm = true) (hN : X.N.Nodup) (hy : X.N[i]? = some y) (hyl : X.env.scope.names.lookup y = some .local) (ok : BlkOk X.N X.env.scope scope own) (hi : PI X tg iter (rdI ⟨X.K, fx, ar⟩ J))
    (hg : ∀ (s : Shared) (H : Hp) (C : Addr) (cl : List (Str × Addr)) (fp : List Addr), PG (X.blk s H scope (compEnvC scope cl C X.env) fp) tg (rdG X.K g)) (ht : ∀ (s : Shared) (H : Hp) (C : Addr) (cl : List (Str × Addr)) (fp : List Addr), PTs (X.blk s H scope (compEnvC scope cl C X.env) fp) ifs (rdT ⟨X.K, fx, ar⟩ t))
    (he : ∀ (s : Shared) (H : Hp) (C : Addr) (cl : List (Str × Addr)) (fp : List Addr), PE (X.blk s H scope (compEnvC scope cl C X.env) fp) elt (rdE ⟨X.K, fx, ar⟩ A)) (hk : X.env.scope.kind = .function := by rfl) (hl : (py.line == pos.line) = true := by rfl) (ha : (scope.names.any fun (n, k) => n == y && (k == .local || k == .cell)) = false := by rfl) (hs : ∀ x, foldedSetIterable iter X.env x = pure x := by intro _; rfl) :
    PS X (.Assign [.Name y py] (.ListComp elt [⟨tg, iter, ifs, 0⟩] scope pos) spos) (rdS ⟨X.K, fx, ar⟩ W (.asg (.name i) (.lc g J t A (own.map (·.2))))) := ps_setLc hc hN hy hyl (sw_true hk hyl hl ha) hi ok hg ht he hs
end

/-! ### statements -/
variable {st : Stmt} {rest p q : List Stmt} {u v : Ss} {w : S} {g : G} {py pt pt2 px : Pos} {y z : Str} {kt k2 : Nat}
theorem dss_nil : PSs X [] (rdSs ⟨X.K, fx, ar⟩ W .nil) := pss_nil
theorem dss (h : PS X st (rdS ⟨X.K, fx, ar⟩ W w)) (h2 : PSs X rest (rdSs ⟨X.K, fx, ar⟩ W u)) : PSs X (st :: rest) (rdSs ⟨X.K, fx, ar⟩ W (.cons w u)) := pss_cons h h2
theorem dss_frz {i : Nat} (h : PSs X rest (rdSs ⟨X.K, fx, ar⟩ W u)) : PSs X rest (rdSs ⟨X.K, fx, ar⟩ W (.frz i u)) := h
theorem ds_set {i : Nat} (hN : X.N.Nodup) (hi : X.N[i]? = some x) (hx : Loc X.env.scope x) (he : PE X e (rdE ⟨X.K, fx, ar⟩ A)) (hs : swapsWith e (some (.Name x py)) pos.line X.env = pure false := by rfl) (hf : X.fn x = true ∨ X.env.scope.names.lookup x = some .local := by first | exact .inl rfl | exact .inr rfl) :
    PS X (.Assign [.Name x py] e pos) (rdS ⟨X.K, fx, ar⟩ W (.asg (.name i) A)) := ps_set hN hi hx he hs hf
theorem ds_asg (he : PE X e (rdE ⟨X.K, fx, ar⟩ A)) (hg : PG X tg (rdG X.K g)) (hs : swapsWithSole [tg] e pos.line X.env = pure false := by rfl) (hw : swappedStores [tg] e X.env = pure none := by rfl) (h1 : (assignEach [tg] X.env).map (·.2) = [assign tg X.env] := by rfl) : PS X (.Assign [tg] e pos) (rdS ⟨X.K, fx, ar⟩ W (.asg g A)) := ps_asg he hg hs hw h1
theorem ds_par {i j : Nat} (hc : X.calm = true) (hN : X.N.Nodup) (hi : X.N[i]? = some y) (hj : X.N[j]? = some z) (ha : PE X a (rdE ⟨X.K, fx, ar⟩ A)) (hb : PE X b (rdE ⟨X.K, fx, ar⟩ B)) (hij : i ≠ j := by decide)
    (hx : X.env.scope.names.lookup y = some .local := by rfl) (hy : X.env.scope.names.lookup z = some .local := by rfl)
    (hw : swappedStores [.Tuple [.Name y px, .Name z py] kt pt] (.Tuple [a, b] k2 pt2) X.env = pure (some [y, z]) := by rfl)
    (hs : swapsWithSole [.Tuple [.Name y px, .Name z py] kt pt] (.Tuple [a, b] k2 pt2) pos.line X.env = pure false := by rfl) (h1 : starEach [a, b] X.env = (false, eval a X.env) :: starEach [b] X.env := by rfl) (h2 : starEach [b] X.env = (false, eval b X.env) :: starEach [] X.env := by rfl) :
    PS X (.Assign [.Tuple [.Name y px, .Name z py] kt pt] (.Tuple [a, b] k2 pt2) pos) (rdS ⟨X.K, fx, ar⟩ W (.par i j A B)) := ps_par hc hN hi hj hij hx hy (pa_cons ha (pa_cons hb pa_nil h2) h1) hw hs
theorem ds_seti (he : PE X e (rdE ⟨X.K, fx, ar⟩ C)) (ha : PE X a (rdE ⟨X.K, fx, ar⟩ A)) (hb : PE X b (rdE ⟨X.K, fx, ar⟩ B))
    (h0 : ∀ v, assign (.Subscript a b p1) X.env v = (do
      let ov ← holding [v] (eval a X.env)
      let iv ← holding [v, ov] (eval b X.env)
      standAt p1
      holding [v, ov, iv] (setItem ov iv v)
      release [v, ov, iv] []) := by intro _; rfl) (hs : swapsWithSole [.Subscript a b p1] e pos.line X.env = pure false := by rfl) (hw : swappedStores [.Subscript a b p1] e X.env = pure none := by rfl) (h1 : (assignEach [.Subscript a b p1] X.env).map (·.2) = [assign (.Subscript a b p1) X.env] := by rfl) :
    PS X (.Assign [.Subscript a b p1] e pos) (rdS ⟨X.K, fx, ar⟩ W (.seti A B C)) := ps_asg he (pg_sub ha hb set_list h0) hs hw h1
theorem ds_setp {c : Expr} {kk kk2 : Nat} {p4 p5 : Pos} {A2 B2 C2 : E} (hcm : X.calm = true) (he : PE X e (rdE ⟨X.K, fx, ar⟩ C)) (he2 : PE X f (rdE ⟨X.K, fx, ar⟩ C2)) (ha : PE X a (rdE ⟨X.K, fx, ar⟩ A)) (hb : PE X b (rdE ⟨X.K, fx, ar⟩ B)) (ha2 : PE X c (rdE ⟨X.K, fx, ar⟩ A2)) (hb2 : PE X d (rdE ⟨X.K, fx, ar⟩ B2))
    (h0 : ∀ v, assign (.Subscript a b p1) X.env v = (do
      let ov ← holding [v] (eval a X.env)
      let iv ← holding [v, ov] (eval b X.env)
      standAt p1
      holding [v, ov, iv] (setItem ov iv v)
      release [v, ov, iv] []) := by intro _; rfl)
    (h02 : ∀ v, assign (.Subscript c d p2) X.env v = (do
      let ov ← holding [v] (eval c X.env)
      let iv ← holding [v, ov] (eval d X.env)
      standAt p2
      holding [v, ov, iv] (setItem ov iv v)
      release [v, ov, iv] []) := by intro _; rfl)
    (hse1 : starEach [e, f] X.env = (false, eval e X.env) :: starEach [f] X.env := by rfl) (hse2 : starEach [f] X.env = (false, eval f X.env) :: starEach [] X.env := by rfl)
    (hae1 : (assignEach [.Subscript a b p1, .Subscript c d p2] X.env).map (·.2) = assign (.Subscript a b p1) X.env :: (assignEach [.Subscript c d p2] X.env).map (·.2) := by rfl) (hae2 : (assignEach [.Subscript c d p2] X.env).map (·.2) = assign (.Subscript c d p2) X.env :: (assignEach [] X.env).map (·.2) := by rfl)
    (hn : (assignEach [.Subscript a b p1, .Subscript c d p2] X.env).length = 2 := by rfl) (hst : (assignEach [.Subscript a b p1, .Subscript c d p2] X.env).findIdx? (·.1) = none := by rfl)
    (hs : swapsWithSole [.Tuple [.Subscript a b p1, .Subscript c d p2] kk p3] (.Tuple [e, f] kk2 p4) pos.line X.env = pure false := by rfl) (hw : swappedStores [.Tuple [.Subscript a b p1, .Subscript c d p2] kk p3] (.Tuple [e, f] kk2 p4) X.env = pure none := by rfl) (h1 : (assignEach [.Tuple [.Subscript a b p1, .Subscript c d p2] kk p3] X.env).map (·.2) = [assign (.Tuple [.Subscript a b p1, .Subscript c d p2] kk p3) X.env] := by rfl) :
    PS X (.Assign [.Tuple [.Subscript a b p1, .Subscript c d p2] kk p3] (.Tuple [e, f] kk2 p4) pos) (rdS ⟨X.K, fx, ar⟩ W (.setp A B A2 B2 C C2)) :=
  ps_asg (pe_tup (pa_cons he (pa_cons he2 pa_nil hse2) hse1)) (pg_tup hcm (pgs_cons (pg_sub ha hb set_list h0) (pgs_cons (pg_sub ha2 hb2 set_list h02) pgs_nil hae2) hae1) hn hst) hs hw h1
theorem ds_dput (hr : Room k X.A) (he : PE X e (rdE ⟨X.K, fx, ar⟩ C)) (ha : PE X a (rdE ⟨X.K, fx, ar⟩ A)) (hb : PE X b (rdE ⟨X.K, fx, ar⟩ B)) (hs : swapsWith e (some (.Subscript a b p1)) pos.line X.env = pure false := by rfl) : PS X (.Assign [.Subscript a b p1] e pos) (rdS ⟨X.K, fx, ar⟩ W (.dput A B C)) := ps_dput (hu_of hr) ha hb he hs
theorem ds_expr (he : PE X e (rdE ⟨X.K, fx, ar⟩ A)) (hs : swapsWith e none pos.line X.env = pure false := by rfl) : PS X (.Expr e pos) (rdS ⟨X.K, fx, ar⟩ W (.expr A)) := ps_expr he hs
theorem ds_ret (he : PE X e (rdE ⟨X.K, fx, ar⟩ A)) : PS X (.Return (some e) pos) (rdS ⟨X.K, fx, ar⟩ W (.ret A)) := ps_ret he
theorem ds_if (hc : PT X e (rdT ⟨X.K, fx, ar⟩ t)) (ha : PSs X p (rdSs ⟨X.K, fx, ar⟩ W u)) (hb : PSs X q (rdSs ⟨X.K, fx, ar⟩ W v)) : PS X (.If e p q pos) (rdS ⟨X.K, fx, ar⟩ W (.ife t u v)) := ps_if hc ha hb
theorem ds_while (hp : PassesOwn (model X.prog X.w) X.A X.env X.xe) (hc : PT X e (rdT ⟨X.K, fx, ar⟩ t)) (ha : PSs X p (rdSs ⟨X.K, fx, ar⟩ W u)) : PS X (.While e p [] pos) (rdS ⟨X.K, fx, ar⟩ W (.whl t u)) := ps_while hp hc ha
def It.plain : It → Bool
  | .keys _ => false
  | _ => true
theorem ds_for (hp : PassesOwn (model X.prog X.w) X.A X.env X.xe) (hc : X.calm = true) (hi : PI X tg e (rdI ⟨X.K, fx, ar⟩ J)) (hg : PG X tg (rdG X.K g)) (ha : PSs X p (rdSs ⟨X.K, fx, ar⟩ W u)) (hJ : J.plain = true := by rfl) (hs : ∀ x, foldedSetIterable e X.env x = pure x := by intro _; rfl) : PS X (.For tg e p [] pos) (rdS ⟨X.K, fx, ar⟩ W (.for_ g J u)) := by
  cases J with
  | keys i => cases hJ
  | seq _ => exact ps_for hp hc hi hg ha hs
  | rng1 _ => exact ps_for hp hc hi hg ha hs
  | rng2 _ _ => exact ps_for hp hc hi hg ha hs
  | zip _ _ => exact ps_for hp hc hi hg ha hs
  | enum _ => exact ps_for hp hc hi hg ha hs
theorem ds_forK {i : Nat} (hp : PassesOwn (model X.prog X.w) X.A X.env X.xe) (hc : X.calm = true) (hi : PE X (.Name x p1) (rdE ⟨X.K, fx, ar⟩ (.var i))) (hg : PG X tg (rdG X.K g)) (ha : PSs X p (rdSs ⟨X.K, fx, ar⟩ W u)) : PS X (.For tg (.Name x p1) p [] pos) (rdS ⟨X.K, fx, ar⟩ W (.for_ g (.keys i) u)) :=
  ps_lock (ps_for hp hc (pi_keys hi) hg ha)
theorem ds_sfld {c f : Str} {o : Expr} {pos' : Pos} (na : NoAttr X.K (cAd X.K c) f) (ho : PE X o (rdE ⟨X.K, fx, ar⟩ A)) (he : PE X e (rdE ⟨X.K, fx, ar⟩ B)) (hs : swapsWith e (some (.Attribute o f pos')) pos.line X.env = pure false := by rfl) : PS X (.Assign [.Attribute o f pos'] e pos) (rdS ⟨X.K, fx, ar⟩ W (.sfld c A f B)) :=
  ⟨fun pins s σ H D I h => (ps_fld ho he hs).run pins s σ H D I (h na)⟩
theorem ds_newLc {t : T} {own : List Nat} {g' : G} (h : PS X st (rdS ⟨X.K, fx, ar⟩ W (.asg g' (.lc g J t A own)))) : PS X st (rdS ⟨X.K, fx, ar⟩ W (.asg g' (.newLc g J t A own))) := h
theorem names_own {c : Str} {a : Addr} (hg : Gl X c) (hm : X.mg c = some (.ref a)) (hdb : (c == ("__debug__" : Str)) = false := by decide) : Names X c (.ref a) := ⟨hg, hdb, .inl hm⟩
theorem room_dn {j : Nat} (h : Room (2 * j + 1) X.A) : Room (2 * j) X.A := h.mono (Nat.le_succ _)
theorem ds_retX (he : PE X e (rdX ⟨X.K, fx, ar⟩ W XA)) : PS X (.Return (some e) pos) (rdS ⟨X.K, fx, ar⟩ W (.retX XA)) := ps_ret he
theorem ds_exprX (he : PE X e (rdX ⟨X.K, fx, ar⟩ W XA)) (hs : swapsWith e none pos.line X.env = pure false := by rfl) : PS X (.Expr e pos) (rdS ⟨X.K, fx, ar⟩ W (.exprX XA)) := ps_expr he hs
theorem ds_asgX (he : PE X e (rdX ⟨X.K, fx, ar⟩ W XA)) (hg : PG X tg (rdG X.K g)) (hs : swapsWithSole [tg] e pos.line X.env = pure false := by rfl) (hw : swappedStores [tg] e X.env = pure none := by rfl) (h1 : (assignEach [tg] X.env).map (·.2) = [assign tg X.env] := by rfl) :
    PS X (.Assign [tg] e pos) (rdS ⟨X.K, fx, ar⟩ W (.asgX g XA)) := ps_asg he hg hs hw h1
theorem ds_setX {i : Nat} (hN : X.N.Nodup) (hi : X.N[i]? = some x) (hx : Loc X.env.scope x) (he : PE X e (rdX ⟨X.K, fx, ar⟩ W XA)) (hs : swapsWith e (some (.Name x py)) pos.line X.env = pure false := by rfl) (hf : X.fn x = true ∨ X.env.scope.names.lookup x = some .local := by first | exact .inl rfl | exact .inr rfl) :
    PS X (.Assign [.Name x py] e pos) (rdS ⟨X.K, fx, ar⟩ W (.asgX (.name i) XA)) := ps_set hN hi hx he hs hf
theorem ds_raise {c : Str} {fs : List Str} {pos' : Pos} (hc : X.calm = true) (tk : Takes X W) (T : FwQ.ErrOk X.prog X.w X.K X.mg X.base c (cAd X.K c) fs) (hr : Room k X.A) (hg : Gl X c) (ha : PA X (e :: es) (rdEs ⟨X.K, fx, ar⟩ Es')) (hdb : (c == ("__debug__" : Str)) = false := by decide)
    (he : starEach (e :: es) X.env = (false, eval e X.env) :: starEach es X.env := by rfl) (hpl : (backTo pos (starEach es X.env)).any (·.1) = false := by rfl) :
    PS X (.Raise (some (.Call (.Name c p1) (e :: es) [] pos)) none pos') (rdS ⟨X.K, fx, ar⟩ W (.raise c fs Es')) := ps_raise hc tk (FwQ.pmk_err T hr ha hg hdb he hpl)
/-- what an except suite hands back -/
theorem dh_e {i : Option Nat} {C0 : Addr} {a0 : Addr} {cls : Value} {dd : Option Addr} (h : PE X e (rdE ⟨X.K, fx, ar⟩ A)) : PE X e (rdHE ⟨X.K, fx, ar⟩ i C0 a0 cls dd (.e A)) := h
theorem dh_nil {i : Option Nat} {C0 : Addr} {a0 : Addr} {cls : Value} {dd : Option Addr} : PA X [] (rdHEs ⟨X.K, fx, ar⟩ i C0 a0 cls dd .nil) := pa_nil
theorem dh_cons {i : Option Nat} {C0 : Addr} {a0 : Addr} {cls : Value} {dd : Option Addr} {h : HE} {hs' : HEs} (h1 : PE X e (rdHE ⟨X.K, fx, ar⟩ i C0 a0 cls dd h)) (h2 : PA X es (rdHEs ⟨X.K, fx, ar⟩ i C0 a0 cls dd hs')) (hs : starEach (e :: es) X.env = (false, eval e X.env) :: starEach es X.env := by rfl) : PA X (e :: es) (rdHEs ⟨X.K, fx, ar⟩ i C0 a0 cls dd (.cons h hs')) := pa_cons h1 h2 hs
theorem dh_tup {j : Nat} {i : Option Nat} {C0 : Addr} {a0 : Addr} {cls : Value} {dd : Option Addr} {hs' : HEs} (h : PA X es (rdHEs ⟨X.K, fx, ar⟩ i C0 a0 cls dd hs')) : PE X (.Tuple es j pos) (rdHE ⟨X.K, fx, ar⟩ i C0 a0 cls dd (.tup hs')) := pe_tup h
theorem dh_xf {i : Nat} {n f : Str} {C0 a0 : Addr} {oe : Obj} {cls : Value} {dd : Option Addr} {pn : List (Addr × Obj)} {pos : Pos} (T : XfC X.K C0) (hno : PySem.W.findIn X.K (.ref C0) f = some none)
    (hz : Zc cls dd oe) (hf : ∃ vs, oe.data = .fields vs) (he : PE (X.suite a0 ((a0, oe) :: pn)) (.Name n p1) (tVar i)) (hb : attributeBase (.Name n p1) f X.env (eval (.Name n p1) X.env) = eval (.Name n p1) X.env := by rfl) :
    PE (X.suite a0 ((a0, oe) :: pn)) (.Attribute (.Name n p1) f pos) (rdHE ⟨X.K, fx, ar⟩ (some i) C0 a0 cls dd (.xf f)) :=
  ⟨fun pins s σ H Q I h => (pe_xf (X := X) T hno hz hf he hb).run pins s σ H Q I (h hno)⟩
theorem ds_try {hds : List Hd} {h₀ : ExceptHandler} {hs : List ExceptHandler} (hst : X.stack = X.env :: X.outer) (hf : X.env.frame = some X.env.locals) (hN : X.N.Nodup) (tk : Takes X W)
    (hb : ∀ (W' : WX) (pn : List (Addr × Obj)) (xe : Value → Shared → Prop), Takes (X.tr pn xe) W' → PassesOwn (model X.prog X.w) X.A X.env xe → PSs (X.tr pn xe) p (rdSs ⟨X.K, fx, ar⟩ W' u))
    (hh : FwQ.HdA X (h₀ :: hs) (rdHds ⟨X.K, fx, ar⟩ hds)) : PS X (.Try p (h₀ :: hs) [] [] pos) (rdS ⟨X.K, fx, ar⟩ W (.try_ u hds)) := FwQ.ps_try_ma hst hf hN tk hb hh
theorem dhd_nil : FwQ.HdA X [] (rdHds ⟨X.K, fx, ar⟩ []) := .nil
theorem dhd {c : Str} {hh : HE} {hds : List Hd} {hs : List ExceptHandler} {np rp : Pos} (hc : Names X c (.ref (cAd X.K c)))
    (hsu : ∀ (a0 : Addr) (oe : Obj) (cls : Value) (dd : Option Addr) (pn : List (Addr × Obj)), Zc cls dd oe → (∃ vs, oe.data = .fields vs) → PE (X.suite a0 ((a0, oe) :: pn)) e (rdHE ⟨X.K, fx, ar⟩ none (cAd X.K c) a0 cls dd hh)) (r : FwQ.HdA X hs (rdHds ⟨X.K, fx, ar⟩ hds)) :
    FwQ.HdA X (.ExceptHandler (some (.Name c np)) none [.Return (some e) rp] pos :: hs) (rdHds ⟨X.K, fx, ar⟩ (⟨c, none, hh⟩ :: hds)) := .cons hc (fun a0 oe cls dd pn hz hf => pss_one (ps_ret (hsu a0 oe cls dd pn hz hf))) r
theorem dhd_as {c n : Str} {i : Nat} {hh : HE} {hds : List Hd} {hs : List ExceptHandler} {np rp : Pos} (hi : X.N[i]? = some n) (hln : X.env.kindOf n = some .local) (hc : Names X c (.ref (cAd X.K c)))
    (hsu : ∀ (a0 : Addr) (oe : Obj) (cls : Value) (dd : Option Addr) (pn : List (Addr × Obj)), Zc cls dd oe → (∃ vs, oe.data = .fields vs) → PE (X.suite a0 ((a0, oe) :: pn)) e (rdHE ⟨X.K, fx, ar⟩ (some i) (cAd X.K c) a0 cls dd hh)) (r : FwQ.HdA X hs (rdHds ⟨X.K, fx, ar⟩ hds)) :
    FwQ.HdA X (.ExceptHandler (some (.Name c np)) (some n) [.Return (some e) rp] pos :: hs) (rdHds ⟨X.K, fx, ar⟩ (⟨c, some i, hh⟩ :: hds)) := .as_ hi hln hc (fun a0 oe cls dd pn hz hf => pss_one (ps_ret (hsu a0 oe cls dd pn hz hf))) r
theorem ds_never : PS X st (rdS ⟨X.K, fx, ar⟩ W .never) := ps_never
theorem ds_brk : PS X (.Break pos) (rdS ⟨X.K, fx, ar⟩ W .brk) := ps_break
theorem ds_cont : PS X (.Continue pos) (rdS ⟨X.K, fx, ar⟩ W .cont) := ps_continue
theorem ds_pass : PS X (.Pass pos) (rdS ⟨X.K, fx, ar⟩ W .pass) := ps_pass
end
end Fw

/-! Fw, part S: sorted(xs, key=f), f a def that gives its parameter's first. -/
namespace Fw
open PySem PySem.Spec PyProof.Rows L2

/-- f: def f(y): return y[0] -/
def KeyD (K : PySem.W.Frag) (mg : Str → Option Value) (x : Str) : Prop :=
  ∃ (f : Addr) (qual y : Str) (st : Stmt) (fd : FuncData) (p1 p2 p3 p4 : Pos) (j : Nat), Fun K x qual st f fd ∧ mg x = some (.ref f) ∧ (∀ u : Value, ∀ s : Shared, BindsTo s fd ⟨[u], []⟩ [(y, u)]) ∧ FnScope [y] [y] (defScope st) ∧ (defScope st).names.lookup y = some .local ∧ (y == ("__debug__" : Str)) = false ∧
    defBody st = [.Return (some (.Subscript (.Name y p1) (.Constant (.int 0) j p2) p3)) p4]
section
variable {X : Cx} {k : Nat} {fx : Nat → List D → Sto → Option (Rv × Sto)} {ar : Nat → Nat} {pos p1 p2 p3 : Pos}
theorem each_zip : ∀ {vs : List V} {us : List Value} {ks : List Int}, Vals vs us → vs.length = ks.length → PySem.W.EachIs (fun (u : Value) (p : Int × V) => RelV p.2 u) us (ks.zip vs)
  | _, _, [], .nil, _ => .nil
  | _, _, _ :: _, .nil, h => by simp at h
  | _, _, [], .cons _ _, h => by simp at h
  | _, _, c :: ks, .cons h r, hl => .cons h (each_zip r (by simpa using hl))
theorem each_vals : ∀ {us : List Value} {ps : List (Int × V)}, PySem.W.EachIs (fun (u : Value) (p : Int × V) => RelV p.2 u) us ps → Vals (ps.map (·.2)) us
  | _, _, .nil => .nil
  | _, _, .cons h r => .cons h (each_vals r)
theorem key_call {f : Addr} {x qual y : Str} {st : Stmt} {fd : FuncData} {q1 q2 q3 q4 : Pos} {j : Nat} {A : Around} {s : Shared} {a : Addr} {its : List Value} {i : Int} {t : Tok} (F : Fun X.K x qual st f fd) (hb : ∀ u : Value, ∀ s : Shared, BindsTo s fd ⟨[u], []⟩ [(y, u)]) (S : FnScope [y] [y] (defScope st)) (hy : (defScope st).names.lookup y = some .local) (hdb : (y == ("__debug__" : Str)) = false)
    (hbd : defBody st = [.Return (some (.Subscript (.Name y q1) (.Constant (.int 0) j q2) q3)) q4]) (hd : A.depth < recursionLimit) (KX : X.K.In s.heap) (lim : s.heap.NoLimit) (hT : IsTup s.heap a ((Value.int i t) :: its).toArray) :
    wpAny (model X.prog X.w) A (call (.ref f) [.ref a]) (PySem.W.KeyPure (.int i) s) (fun _ _ => False) s := by
  obtain ⟨oc, od, kV, doc, pm, an, cdv, ct, osl, rfl, lk, hcd⟩ := F.ex
  refine wpAny_call (codeAny_call_function hd (KX _ _ lk) rfl S.co S.gen rfl (PySem.W.codeRec_of KX hcd) (hb _ _ _ _ _ _ ?_))
  refine wpAny_newFunctionEnv_cells S.kind (fun z hz => ?_) fun env he s1 xx => ?_
  · rw [List.mem_singleton.mp hz]; exact .inl hy
  · subst he
    refine ⟨lim.keeps xx.toInCall.keep, codeAny_func ?_⟩
    rw [hbd]
    generalize hE : newEnv (PySem.W.fnOf x qual (defArgs st) (defBody st) (defScope st) Value.none kV doc pm an cdv ct).scope _ _ _ _ _ _ _ _ = env at xx ⊢
    have e1 : env.scope = defScope st := by rw [← hE]; rfl
    have e2 : env.kindOf y = some .local := by show env.scope.names.lookup y = _; rw [e1]; exact hy
    obtain ⟨h', tk, rfl, kp⟩ := xx.done
    have hT1 : IsTup h' a ((Value.int i t) :: its).toArray := hT.keeps kp
    refine wpAny_execs_cons (wpAny_Return_some (Subscript_ (wpAny_Name (wpAny_loadName_local (v := .ref a) (by rw [e1]; exact S.kind) e2 xx.toInCall.ns ?_ (wpAny_Constant_int ?_)) hdb)))
    · simp [bindL, e2]
    · refine subscriptTail_builtinR (x := .int i t) hT1.typeIs slot_tuple_getitem.lookup (getItem_tuple (j := 0) hT1 (by decide) (by decide) ?_ rfl ⟨rfl, ?_⟩)
      · simp [seqIndex?]
      · exact ⟨_, _, rfl, kp, .int i t⟩
variable {e : Expr} {A : E}
theorem d_sort {x : Str} (h : KeyD X.K X.mg x) (hr : Room k X.A) (hg : Gl X "sorted") (hm : X.mg "sorted" = none) (hx : Gl X x) (he : PE X e (rdE ⟨X.K, fx, ar⟩ A)) (hdb : (x == ("__debug__" : Str)) = false := by decide)
    (he1 : starEach [e] X.env = (false, eval e X.env) :: starEach [] X.env := by rfl) (hpl : (backTo pos (starEach [e] X.env)).any (·.1) = false := by rfl)
    (hall : (backToKw pos (keywordEach [⟨some "key", .Name x p2, p3⟩] X.env)).all (·.1.isSome) = true := by rfl) (hnone : (backToKw pos (keywordEach [⟨some "key", .Name x p2, p3⟩] X.env)).any (·.1.isNone) = false := by rfl) (hks : (backToKw pos (keywordEach [⟨some "key", .Name x p2, p3⟩] X.env)).filterMap (·.1) = [Str.ofString "key"] := by rfl) :
    PE X (.Call (.Name "sorted" p1) [e] [⟨some "key", .Name x p2, p3⟩] pos) (rdE ⟨X.K, fx, ar⟩ (.newSort A)) := by
  obtain ⟨f, qual, y, st, fd, q1, q2, q3, q4, j, F, hmx, hb, S, hy, hdy, hbd⟩ := h
  refine ⟨fun pins s σ H Q I h => ?_⟩
  refine wpAny_Call_Name_kw (ld_blt (u := .builtin "sorted") I hg hm (by decide +kernel) ?_ (by decide) (by decide))
  have ha : PA X [e] (tCons (rdE ⟨X.K, fx, ar⟩ A) tNil) := pa_cons he pa_nil he1
  have hk : PK X [⟨some "key", .Name x p2, p3⟩] (tCons (tC (V.ref f)) tNil) := pk_cons (pe_glob hx hmx rfl hdb) pk_nil
  refine PyProof.Rows.callWith_kw (thn (ha.run pos pins s σ H (fun vs H1 => match vs with
    | [v] => (fun (x : V) (H1 : Hp) => ∃ (l : Addr) (vs : List V) (ks : List Int), x = .ref l ∧ H1 l = some (.lst vs) ∧ vs.length = ks.length ∧ vs.length ≤ 60 ∧
        (∀ (i : Nat) (v : V) (k : Int), vs[i]? = some v → ks[i]? = some k → ∃ (a : Addr) (us : List V), v = .ref a ∧ H1 a = some (.tup (.int k :: us))) ∧
        ∀ p, H1 p = none → Q (.ref p) (upd H1 p (.lst ((sortK (ks.zip vs)).map (·.2))))) v H1
    | _ => False) I h) fun us s1 ⟨vs, H1, I1, r1, q1⟩ => thn (hk.run pos pins s1 σ H1 (fun zs H2 => zs = [V.ref f] ∧ H2 = H1) I1 ⟨rfl, rfl⟩) fun ws s2 ⟨zs, H2, I2, r2, q2⟩ => ?_) (by rw [he1]; rfl) hpl hall hnone
  rw [hks]
  obtain ⟨rfl, rfl⟩ := q2
  cases r1 with
  | nil => exact q1.elim
  | cons r1 rr => cases rr with
    | cons _ _ => exact q1.elim
    | nil =>
      obtain ⟨l, vs, ks, rfl, hl, hlen, h60, hit, q⟩ := q1
      cases r1
      obtain ⟨w1, rfl, e1⟩ := vals1 r2
      obtain rfl : w1 = Value.ref f := e1
      obtain ⟨its, rv, pl, hz⟩ := I2.list (xs := vs) (.inl (.inl hl))
      have hZ : (ks.zip vs).length ≤ sizeLine := by
        rw [List.length_zip, hlen, Nat.min_self, ← hlen]; exact hz
      show wpAny _ _ (call (.builtin "sorted") [.ref l] [(Str.ofString "key", .ref f)]) _ _ _
      refine PySem.W.sorted_key_data (b := false) (fun p : Int × V => .int p.1) pl.isList (each_zip rv hlen) (PySem.W.AllAlike.of fun _ _ => by simp [PySem.W.alike]) (PySem.W.Sortable.others fun _ => ⟨(fun z => nomatch z), (fun _ z => nomatch z)⟩) hZ (fun p _ => ?_) (ksk_s1 _ _) (fun _ => ksk_l1 _ _) (fun _ => ksk_t1 _ _)
        (fun v p hR hmem h tk kp => ?_) fun out c h' tk kp hfr hD hln eo => ?_
      · have := hr.un
        have hd : (PyData.int p.1).depth = 0 := by simp [PyData.depth]
        rw [hd]
        omega
      · obtain ⟨i, hi⟩ := List.mem_iff_getElem?.mp hmem
        obtain ⟨z1, z2⟩ := List.getElem?_zip_eq_some.mp hi
        obtain ⟨a, us, e1, e2⟩ := hit i p.2 p.1 z2 z1
        rw [e1] at hR
        obtain rfl : v = Value.ref a := hR
        obtain ⟨jt, jv, jp, jz⟩ := I2.tuple (xs := .int p.1 :: us) (.inl (.inl e2))
        cases jv with
        | cons j0 jv =>
          obtain ⟨t, rfl⟩ := j0
          exact key_call F hb S hy hdy hbd (by show X.A.depth < _; have := hr.dp; omega) (I2.kIn.keeps kp) (I2.nolimit.keeps kp) (jp.keeps kp)
      · have ev := each_vals eo
        rw [PySem.W.dataLe_int] at ev
        have es : (s2.heap.objs.size + 1 : Nat) = s2.heap.objs.size + 1 := rfl
        exact ⟨.ref _, upd H2 (s2.heap.objs.size + 1) (.lst ((sortK (ks.zip vs)).map (·.2))), I2.laid kp (Nat.le_succ _) ⟨by rw [List.length_map]; unfold sortK; rw [List.length_mergeSort]; exact hZ, out, c, ev, hD⟩, rfl, q _ (I2.hok.fresh (Nat.le_succ _))⟩
end
end Fw

/-! Fw, part J: a def of the text keeps what its evaluator says. -/
namespace Fw
open PySem PySem.Spec PyProof.Rows L2

def arOf (PD : Pr) (i : Nat) : Nat := match PD.df i with
  | some f => f.np
  | none => 0
theorem run_ar {PD : Pr} {wf : Nat} : ∀ {k i : Nat} {ds : List D} {s : Sto} {r : Rv × Sto}, runX PD wf k i ds s = some r → ds.length = arOf PD i
  | 0, _, _, _, _, h => by cases h
  | k + 1, i, ds, s, r, h => by
    simp only [runX] at h
    split at h
    · rename_i f hf
      unfold arOf
      rw [hf]
      unfold Df.go at h
      split at h
      · assumption
      · cases h
    · cases h
section
variable {K : PySem.W.Frag}
theorem EnR.nones {g : Gh} : ∀ n : Nat, EnR K g (List.replicate n none) (List.replicate n none)
  | 0 => .nil
  | n + 1 => .no (EnR.nones n)
theorem EnR.args {g : Gh} {n : Nat} : ∀ {vs : List V} {ds : List D}, RepL K g vs ds → EnR K g (ds.map some ++ List.replicate n none) (vs.map some ++ List.replicate n none)
  | _, _, .nil => EnR.nones n
  | _, _, .cons h r => .yes h (EnR.args r)
variable {P : Program} {w : World} {mg : Str → Option Value} {base : Heap}
/-- what is known of the exceptions' classes -/
def SubOk (K : PySem.W.Frag) (PD : Pr) : Prop := ∀ a h b, PD.sub a h = some b → PySem.W.exmOne K (.ref (cAd K a)) (.ref (cAd K h)) = some b
theorem fun_fw {PD : Pr} {wf j k i : Nat} {x qual : Str} {st : Stmt} {f : Addr} {fd : FuncData} {N ps : List Str} (F : Fun K x qual st f fd) (S : FnScope N ps (defScope st)) {df : Df} (hP : PD.df i = some df) (hnp : df.np = ps.length) (hns : df.ns = N.length) (hsub : SubOk K PD)
    (body : ∀ (cdv : Value) (A : Around) (outer : List Env) (s : Shared) (H : Hp) (E : XK), Room j (A.deeper (envOfC qual (defScope st) s.heap.objs.size f cdv)) →
      Takes (cxOf (L2.CX P w) P w K mg base N qual (defScope st) f cdv A outer s H E) (fun cls d _ H => E cls d H) → PassesOwn (model P w) (cxOf (L2.CX P w) P w K mg base N qual (defScope st) f cdv A outer s H E).A (cxOf (L2.CX P w) P w K mg base N qual (defScope st) f cdv A outer s H E).env (cxOf (L2.CX P w) P w K mg base N qual (defScope st) f cdv A outer s H E).xe →
      PSs (cxOf (L2.CX P w) P w K mg base N qual (defScope st) f cdv A outer s H E) (defBody st) (rdSs ⟨K, runX PD wf k, arOf PD⟩ (fun cls d _ H => E cls d H) df.body)) :
    FnOk P w K mg base (L2.CX P w) (j + 1) f fd ps (SpX K (arOf PD i) (runX PD wf (k + 1) i)) := by
  have ha : arOf PD i = ps.length := by unfold arOf; rw [hP]; exact hnp
  refine F.okX S (fun vs H Q E h => h.1.trans ha) fun cdv A outer s H vs Q E hr h => ?_
  refine ⟨_, body cdv A outer s H E hr (takes_of rfl rfl rfl rfl) (passes_of rfl), ?_⟩
  obtain ⟨hl, g, ds, st0, r, s', rl, W, e, q⟩ := h
  simp only [runX, hP] at e
  unfold Df.go at e
  split at e
  · rename_i hd
    have en : EnR K g (ds.map some ++ List.replicate (df.ns - df.np) none) (L2.start N vs) := by
      unfold L2.start
      have : N.length - vs.length = df.ns - df.np := by rw [hl, ha, hns, hnp]
      rw [this]
      exact EnR.args rl
    have L : Lk ⟨runX PD wf k, wf, st0.length, PD.sub⟩ ⟨K, runX PD wf k, arOf PD⟩ := ⟨rfl, fun i ds s r h => run_ar h, hsub⟩
    split at e
    · rename_i d1 s1 h1
      cases e
      exact sndSs L df.body g st0 _ _ H _ h1 W en _ _ fun v g' H' S' W' r' => q v g' H' S' W' r'
    · rename_i e1 s1 h1
      cases e
      exact sndSs L df.body g st0 _ _ H _ h1 W en _ _ fun σ' g' H' S' W' E' => q .non g' H' S' W' .non
    · rename_i c fs e1 s1 h1
      cases e
      exact sndSs L df.body g st0 _ _ H _ h1 W en _ _ fun σ' g' H' dd S' W' E' r' => q g' H' dd S' W' r'
    · cases e
  · cases e
/-- at no level nothing is promised -/
theorem fn_zero {PD : Pr} {wf j i : Nat} {f : Addr} {fd : FuncData} {ps : List Str} (h : arOf PD i = ps.length) : FnOk P w K mg base (L2.CX P w) j f fd ps (SpX K (arOf PD i) (runX PD wf 0 i)) :=
  ⟨fun vs H Q E z => z.1.trans h, fun A outer s H args us vs Q E hr e0 hb r ⟨_, g, ds, s0, d, s', _, _, e, _⟩ => by cases e⟩
/-- the law's own promise -/
def spLaw (K : PySem.W.Frag) (n : Nat) : Sp := fun vs H Q _ => ∃ (a : Addr) (ns : List Int), vs = [.ref a] ∧ SqL K H a (ns.map V.int) ∧ ns.length ≤ n ∧ (∀ H', Q (.bl true) H')
theorem fn_law {PD : Pr} {wf j k i n : Nat} {f : Addr} {fd : FuncData} {x : Str} (F : FnOk P w K mg base (L2.CX P w) j f fd [x] (SpX K (arOf PD i) (runX PD wf k i))) (h1 : arOf PD i = 1)
    (hlaw : ∀ ns : List Int, ns.length ≤ n → ∃ s', run PD wf k i [.scr ns] [] = some (.bl true, s')) : FnOk P w K mg base (L2.CX P w) j f fd [x] (spLaw K n) := by
  refine ⟨fun vs H Q E ⟨a, ns, e, _⟩ => by rw [e]; rfl, fun A outer s H args us vs Q E hr e0 hb r hsp => ?_⟩
  obtain ⟨a, ns, rfl, hS, hl, q⟩ := hsp
  refine F.run A outer s H args us [.ref a] Q E hr e0 hb r ?_
  obtain ⟨s', e⟩ := hlaw ns hl
  have e' : runX PD wf k i [.scr ns] [] = some (.ok (.bl true), s') := by
    unfold run Rv.val at e
    split at e
    · rename_i d1 s1 z
      cases e; exact z
    · cases e
  refine ⟨by rw [h1]; rfl, ⟨H, []⟩, [.scr ns], [], .ok (.bl true), s', .cons (.scr hS) .nil, ?_, e', fun v g' H' S W r => ?_⟩
  · exact ⟨fun a o h => .inl h, rfl, fun n a h => by simp at h, fun n q h _ => by have := get_lt h; simp at this, fun n q h => by have := get_lt h; simp at this, fun n m a h => by have := live_lt h; simp at this⟩
  · cases r
    exact q H'
end
end Fw

/-! Fw, part K: what the top has written, fact by fact. -/
namespace Fw
open PySem PySem.Spec PySem.Calls PyProof.Rows L2
open PySem.W (Frag)

/-- a def of the module -/
def DefAt (K : Frag) (x : Str) (st : Stmt) : Prop := ∃ (f : Addr) (od an : Option Addr) (sl : Array (Option Value)) (oc kV dc pm cd ct : Value),
  PySem.W.nsIn K mainGlobals x = some (some (.ref f)) ∧ K.lookup f = some ⟨oc, od, .func (PySem.W.fnOf x x (defArgs st) (defBody st) (defScope st) .none kV dc pm an cd ct), sl⟩ ∧ PySem.W.codeIn K cd x = true ∧ PySem.W.keepIn K (.ref f) = true
/-- a method -/
def MethAt (K : Frag) (C : Addr) (m qual : Str) (st : Stmt) : Prop := ∃ (f : Addr) (od an : Option Addr) (sl : Array (Option Value)) (oc kV dc pm cd ct : Value),
  PySem.W.findIn K (.ref C) m = some (some (.ref f)) ∧ PySem.W.isFn K (.ref f) = true ∧ K.lookup f = some ⟨oc, od, .func (PySem.W.fnOf m qual (defArgs st) (defBody st) (defScope st) .none kV dc pm an cd ct), sl⟩ ∧ PySem.W.codeIn K cd qual = true ∧ PySem.W.keepIn K (.ref f) = true
/-- a class of instances -/
def InsAt (K : Frag) (c : Str) (C : Addr) : Prop := PySem.W.nsIn K mainGlobals c = some (some (.ref C)) ∧ PySem.W.plainGet K C Str.empty = true ∧ PySem.W.hasDictIn K C = true ∧ PySem.W.plainOver K C = true ∧
  PySem.W.findIn K (.ref C) "__setattr__" = some (some (.builtin "object.__setattr__")) ∧ PySem.W.makesIn K C = true ∧ PySem.W.keepIn K (.ref C) = true
/-- a class of exceptions -/
def ExcAt (K : Frag) (c : Str) (C : Addr) : Prop := PySem.W.nsIn K mainGlobals c = some (some (.ref C)) ∧ PySem.W.subIn K (.ref C) (.type "BaseException") = some true ∧ PySem.W.isClsIn K C = true ∧ PySem.W.typeIn K (.ref C) = some (.type "type")
/-- .. with an __init__ that calls super().__init__ -/
def ErrAt (K : Frag) (P : Program) (C : Addr) (qual : Str) (st : Stmt) : Prop :=
  ∃ (nm q : Str) (N : Addr) (bs bm : List Value) (sn : List Str) (sub : List Value) (ab : Bool) (col : Option Bool) (dd : Option Addr) (k0 k1 k2 k3 k5 : Option Value) (fI cc cda : Addr)
    (oc : Value) (od : Option Addr) (kV doc pm ct : Value) (an : Option Addr) (osl : Array (Option Value)) (cl : Value) (cld : Option Addr) (csl : Array (Option Value)) (ccl : Value) (cdd : Option Addr) (vs : Array Value) (ccs : Array (Option Value)) (file : Str) (tf : Tok),
  K.lookup C = some (excClassObj nm q C N bs bm true sn sub ab col dd k0 k1 k2 k3 k5 "ValueError.__new__") ∧ PySem.HandSPX.refsVE bm = true ∧
  PySem.W.findIn K (.ref C) "__setattr__" = some (some (.builtin "object.__setattr__")) ∧ PySem.W.findIn K (.ref C) "__getattribute__" = some (some (.builtin "BaseException.__getattribute__")) ∧ PySem.W.findIn K (.ref C) "__getattr__" = some none ∧
  PySem.W.findIn K (.ref C) "__init__" = some (some (.ref fI)) ∧ PySem.W.typeIn K (.ref fI) = some (.type "function") ∧
  K.lookup fI = some ⟨oc, od, .func (PySem.W.ksFn "__init__" qual (defArgs st) (defBody st) (defScope st) .none kV doc pm an (.ref cda) ct cc), osl⟩ ∧ PySem.W.codeIn K (.ref cda) qual = true ∧
  K.lookup cc = some ⟨cl, cld, .cell (some (.ref C)), csl⟩ ∧ K.lookup cda = some ⟨ccl, cdd, .fields vs, ccs⟩ ∧ vs[2]? = some (.str file tf) ∧ ((P.main.file : Str) == file) = true ∧
  PySem.W.ks_superIn K C C "__init__" = some (some (.builtin "ValueError.__init__")) ∧ PySem.W.subIn K (.ref C) (.type "ValueError") = some true ∧ PySem.W.mroIn K C (.ref C) = some true ∧
  PySem.W.hasDictIn K C = true ∧ PySem.W.keepIn K (.ref C) = true
theorem ex_mk {α : Type} {p : α → Prop} {a : α} (h : p a) : ∃ x, p x := ⟨a, h⟩
theorem DefAt.mk' {K : Frag} {x : Str} {st : Stmt} {f : Addr} {od an : Option Addr} {sl : Array (Option Value)} {oc kV dc pm cd ct : Value}
  (a : PySem.W.nsIn K mainGlobals x = some (some (.ref f))) (l : K.lookup f = some ⟨oc, od, .func (PySem.W.fnOf x x (defArgs st) (defBody st) (defScope st) .none kV dc pm an cd ct), sl⟩) (c : PySem.W.codeIn K cd x = true) (k : PySem.W.keepIn K (.ref f) = true) : DefAt K x st := ⟨_, _, _, _, _, _, _, _, _, _, a, l, c, k⟩
theorem MethAt.mk' {K : Frag} {C : Addr} {m qual : Str} {st : Stmt} {f : Addr} {od an : Option Addr} {sl : Array (Option Value)} {oc kV dc pm cd ct : Value}
  (a : PySem.W.findIn K (.ref C) m = some (some (.ref f))) (i : PySem.W.isFn K (.ref f) = true) (l : K.lookup f = some ⟨oc, od, .func (PySem.W.fnOf m qual (defArgs st) (defBody st) (defScope st) .none kV dc pm an cd ct), sl⟩) (c : PySem.W.codeIn K cd qual = true) (k : PySem.W.keepIn K (.ref f) = true) : MethAt K C m qual st := ⟨_, _, _, _, _, _, _, _, _, _, a, i, l, c, k⟩
theorem ErrAt.mk' {K : Frag} {P : Program} {C : Addr} {qual : Str} {st : Stmt} {nm q : Str} {N : Addr} {bs bm : List Value} {sn : List Str} {sub : List Value} {ab : Bool} {col : Option Bool} {dd : Option Addr} {k0 k1 k2 k3 k5 : Option Value} {fI cc cda : Addr}
    {oc : Value} {od : Option Addr} {kV doc pm ct : Value} {an : Option Addr} {osl : Array (Option Value)} {cl : Value} {cld : Option Addr} {csl : Array (Option Value)} {ccl : Value} {cdd : Option Addr} {vs : Array Value} {ccs : Array (Option Value)} {file : Str} {tf : Tok}
  (xL : K.lookup C = some (excClassObj nm q C N bs bm true sn sub ab col dd k0 k1 k2 k3 k5 "ValueError.__new__")) (rv : PySem.HandSPX.refsVE bm = true)
  (sa : PySem.W.findIn K (.ref C) "__setattr__" = some (some (.builtin "object.__setattr__"))) (ga : PySem.W.findIn K (.ref C) "__getattribute__" = some (some (.builtin "BaseException.__getattribute__"))) (gg : PySem.W.findIn K (.ref C) "__getattr__" = some none)
  (a1 : PySem.W.findIn K (.ref C) "__init__" = some (some (.ref fI))) (t1 : PySem.W.typeIn K (.ref fI) = some (.type "function"))
  (l1 : K.lookup fI = some ⟨oc, od, .func (PySem.W.ksFn "__init__" qual (defArgs st) (defBody st) (defScope st) .none kV doc pm an (.ref cda) ct cc), osl⟩) (c1 : PySem.W.codeIn K (.ref cda) qual = true)
  (lc : K.lookup cc = some ⟨cl, cld, .cell (some (.ref C)), csl⟩) (lcd : K.lookup cda = some ⟨ccl, cdd, .fields vs, ccs⟩) (v2 : vs[2]? = some (.str file tf)) (hf : ((P.main.file : Str) == file) = true)
  (sup : PySem.W.ks_superIn K C C "__init__" = some (some (.builtin "ValueError.__init__"))) (ve : PySem.W.subIn K (.ref C) (.type "ValueError") = some true) (self : PySem.W.mroIn K C (.ref C) = some true)
  (hd : PySem.W.hasDictIn K C = true) (kp : PySem.W.keepIn K (.ref C) = true) : ErrAt K P C qual st :=
  ⟨_, _, _, _, _, _, _, _, _, _, _, _, _, _, _, _, _, _, _, _, _, _, _, _, _, _, _, _, _, _, _, _, _, _, _, xL, rv, sa, ga, gg, a1, t1, l1, c1, lc, lcd, v2, hf, sup, ve, self, hd, kp⟩
theorem exm_of {K : PySem.W.Frag} {c1 c2 : Str} {S T : Addr} {b : Bool} (hS : ExcAt K c1 S) (hT : ExcAt K c2 T) (h4 : PySem.W.subIn K (.ref S) (.ref T) = some b) :
    PySem.W.exmOne K (.ref (cAd K c1)) (.ref (cAd K c2)) = some b := by
  rw [cAd_of hS.1, cAd_of hT.1]
  have h1 := hT.2.1
  have h3 := hT.2.2.2
  have e1 : (PySem.W.subIn K (.ref T) (.type "BaseException") == some true) = true := by rw [h1] <;> rfl
  have e2 : ((PySem.W.clsIn K T).isSome && PySem.W.typeIn K (.ref T) == some (.type "type")) = true := by
    have h2' : (PySem.W.clsIn K T).isSome = true := hT.2.2.1
    rw [h2', h3] <;> rfl
  show (if (PySem.W.subIn K (.ref T) (.type "BaseException") == some true) = true then (if ((PySem.W.clsIn K T).isSome && PySem.W.typeIn K (.ref T) == some (.type "type")) = true then PySem.W.subIn K (.ref S) (.ref T) else none) else none) = some b
  rw [if_pos e1, if_pos e2]
  exact h4
section
variable {K : PySem.W.Frag} {h : Heap} {mg : Str → Option Value}
theorem DefAt.fn {x : Str} {st : Stmt} (d : DefAt K x st) (X : K.In h) (G : h.Ns mainGlobals mg) : ∃ f fd, Fun K x x st f fd ∧ mg x = some (.ref f) := by
  obtain ⟨f, od, an, sl, oc, kV, dc, pm, cd, ct, a, l, c, k⟩ := d
  exact ⟨f, _, fun_mk l c k, PySem.W.mg_of X G a⟩
theorem MethAt.fn {C : Addr} {c m qual : Str} {st : Stmt} (d : MethAt K C m qual st) (e : cAd K c = C) : ∃ f fd, Fun K m qual st f fd ∧ Meth K (cAd K c) m f := by
  obtain ⟨f, od, an, sl, oc, kV, dc, pm, cd, ct, a, i, l, cc, k⟩ := d
  exact ⟨f, _, fun_mk l cc k, by rw [e]; exact ⟨a, i, k⟩⟩
theorem InsAt.cls {c : Str} {C : Addr} (d : InsAt K c C) : ClsOk K c := by
  obtain ⟨a, pg, hd, po, sa, mk, kc⟩ := d
  have e := cAd_of a
  exact ⟨by rw [e]; exact a, by rw [e]; exact ⟨pg, hd, po, sa⟩⟩
theorem InsAt.mk {c : Str} {C f : Addr} (d : InsAt K c C) (m : Meth K (cAd K c) "__init__" f) : Mk K (cAd K c) f := by
  obtain ⟨a, pg, hd, po, sa, mk, kc⟩ := d
  have e := cAd_of a
  rw [e] at m ⊢
  exact ⟨mk, m.at_, m.fn, kc⟩
theorem InsAt.gl {c : Str} {C : Addr} (d : InsAt K c C) (X : K.In h) (G : h.Ns mainGlobals mg) : mg c = some (.ref (cAd K c)) := by
  rw [cAd_of d.1]; exact PySem.W.mg_of X G d.1
theorem ExcAt.gl {c : Str} {C : Addr} (d : ExcAt K c C) (X : K.In h) (G : h.Ns mainGlobals mg) : mg c = some (.ref (cAd K c)) := by
  rw [cAd_of d.1]; exact PySem.W.mg_of X G d.1
theorem ErrAt.errC {P : Program} {c : Str} {C : Addr} {qual : Str} {st : Stmt} (d : ErrAt K P C qual st) (e : ExcAt K c C) (ns : PySem.W.nsIn K mainGlobals "super" = some none) (ss : PySem.W.nsIn K cStatics "thirdparty.any" = some none) (top : (P.main.scope.names.lookup ("super" : Str)).isSome = false) :
    ∃ fI cc cda, FwQ.ErrC K P C fI cc cda qual (defArgs st) (defBody st) (defScope st) := by
  obtain ⟨nm, q, N, bs, bm, sn, sub, ab, col, dd, k0, k1, k2, k3, k5, fI, cc, cda, oc, od, kV, doc, pm, ct, an, osl, cl, cld, csl, ccl, cdd, vs, ccs, file, tf, xL, rv, sa, ga, gg, a1, t1, l1, c1, lc, lcd, v2, hf, sup, ve, self, hd, kp⟩ := d
  obtain ⟨_, eC, iC, tC⟩ := e
  exact ⟨fI, cc, cda, ⟨⟨nm, q, N, bs, bm, sn, sub, ab, col, dd, k0, k1, k2, k3, k5, xL, rv⟩, sa, eC, tC, kp⟩, ⟨ga, gg, eC, hd⟩, a1, t1, ⟨oc, od, .none, kV, doc, pm, ct, an, osl, l1, c1, rfl⟩, ⟨cl, cld, csl, lc⟩, ⟨ccl, cdd, vs, ccs, file, tf, lcd, v2, hf⟩, sup, ve, self, ns, ss, top⟩
end
end Fw

/-! Fw, part M: laws of the evaluator, for the mathematics. -/
namespace Fw
open PySem

section
variable {f : D → Sto → Option (Option D × Sto)}
/-- a comprehension that leaves the store -/
theorem lcV_pure {α : Type} (en : α → D) (h : α → Option D) {s : Sto} : ∀ (l : List α), (∀ x ∈ l, f (en x) s = some (h x, s)) → lcV f (l.map en) s = some (l.filterMap h, s)
  | [], _ => rfl
  | x :: l, hf => by
    rw [List.map_cons]
    simp only [lcV, hf x (List.mem_cons_self ..), Option.bind_some, lcV_pure en h l fun y m => hf y (List.mem_cons_of_mem _ m)]
    cases e : h x with
    | none => rw [List.filterMap_cons_none e]
    | some y => rw [List.filterMap_cons_some e]
theorem lcV_map {α : Type} (en : α → D) (h : α → D) {s : Sto} (l : List α) (hf : ∀ x ∈ l, f (en x) s = some (some (h x), s)) : lcV f (l.map en) s = some (l.map h, s) := by
  rw [lcV_pure en (fun x => some (h x)) l hf]
  rw [List.filterMap_eq_map']
/-- with the store going on, by an invariant: acc is what was kept -/
theorem lcV_inv {α : Type} (en : α → D) (I : List α → List D → Sto → Prop) {s : Sto} : ∀ (l : List α) (pre : List α) (acc : List D), I pre acc s →
    (∀ (p : List α) (x : α) (q : List α) (acc : List D) (s : Sto), pre ++ l = p ++ x :: q → I p acc s → ∃ o s', f (en x) s = some (o, s') ∧ I (p ++ [x]) (match o with | some d => acc ++ [d] | none => acc) s') → ∃ out s', lcV f (l.map en) s = some (out, s') ∧ I (pre ++ l) (acc ++ out) s'
  | [], pre, acc, h0, _ => ⟨[], s, rfl, by rw [List.append_nil, List.append_nil]; exact h0⟩
  | x :: l, pre, acc, h0, hs => by
    obtain ⟨o, s1, e1, i1⟩ := hs pre x l acc s rfl h0
    obtain ⟨out, s2, e2, i2⟩ := lcV_inv en I l (pre ++ [x]) _ i1 fun p y q a s z i => hs p y q a s (by rw [← z]; simp) i
    simp only [List.map_cons, lcV, e1, Option.bind_some, e2]
    refine ⟨_, _, rfl, ?_⟩
    rw [List.append_assoc, List.singleton_append] at i2
    cases o with
    | none => exact i2
    | some d =>
      rw [List.append_assoc, List.singleton_append] at i2
      exact i2
end
theorem srcGo_vals {f : D → Sto → Option (Option D × Sto)} {l : List D} {s : Sto} (h : l.length ≤ ZL) : srcGo f (.vals l) s = lcV f l s := by
  simp only [srcGo, h, if_true]

/-- a for's turns by an invariant; each turn goes on -/
theorem forV_inv {α : Type} (en : α → D) {f : En → Sto → Option Rs} {g : G} (I : List α → En → Sto → Prop) : ∀ (l pre : List α) (env : En) (s : Sto), I pre env s →
    (∀ (p : List α) (x : α) (q : List α) (env : En) (s : Sto), pre ++ l = p ++ x :: q → I p env s → ∃ e1 e2 s2, asgG g (en x) env = some e1 ∧ (f e1 s = some (.nx e2 s2) ∨ f e1 s = some (.ct e2 s2)) ∧ I (p ++ [x]) e2 s2) → ∃ env' s', forV f g (l.map en) env s = some (.nx env' s') ∧ I (pre ++ l) env' s'
  | [], pre, env, s, h0, _ => ⟨env, s, rfl, by rw [List.append_nil]; exact h0⟩
  | x :: l, pre, env, s, h0, hs => by
    obtain ⟨e1, e2, s2, a1, a2, a3⟩ := hs pre x l env s rfl h0
    obtain ⟨env', s', b1, b2⟩ := forV_inv en I l (pre ++ [x]) e2 s2 a3 fun p y q e s z i => hs p y q e s (by rw [← z]; simp) i
    refine ⟨env', s', ?_, by rw [List.append_assoc] at b2; exact b2⟩
    rcases a2 with a2 | a2 <;> simp only [List.map_cons, forV, a1, a2, b1]
/-- a while's turns by an invariant with a measure -/
theorem while_inv {c : En → Sto → Option (Bool × Sto)} {f : En → Sto → Option Rs} (I : Nat → En → Sto → Prop) (Q : En → Sto → Prop) : ∀ (n m : Nat) (env : En) (s : Sto), m < n → I m env s →
    (∀ m env s, I m env s → (∃ s', c env s = some (false, s') ∧ Q env s') ∨ (∃ s1 e2 s2 m2, c env s = some (true, s1) ∧ (f env s1 = some (.nx e2 s2) ∨ f env s1 = some (.ct e2 s2)) ∧ m2 < m ∧ I m2 e2 s2)) → ∃ env' s', whileF c f n env s = some (.nx env' s') ∧ Q env' s'
  | 0, m, _, _, h, _, _ => absurd h (Nat.not_lt_zero _)
  | n + 1, m, env, s, hm, h0, hs => by
    rcases hs m env s h0 with ⟨s', e, q⟩ | ⟨s1, e2, s2, m2, e, e', hl, i⟩
    · exact ⟨env, s', by simp only [whileF, e], q⟩
    · obtain ⟨env', s', b1, b2⟩ := while_inv I Q n m2 e2 s2 (by omega) i hs
      refine ⟨env', s', ?_, b2⟩
      rcases e' with e' | e' <;> simp only [whileF, e, e', b1]
theorem clL_map {α : Type} {en : α → D} (h : ∀ x, (en x).cl = true) : ∀ l : List α, clL (l.map en) = true
  | [] => rfl
  | x :: l => by simp only [List.map_cons, clL, h x, clL_map h l, Bool.and_self]
theorem clL_app : ∀ a b : List D, clL (a ++ b) = (clL a && clL b)
  | [], b => rfl
  | x :: a, b => by simp only [List.cons_append, clL, clL_app a b, Bool.and_assoc]
@[simp] theorem atI_ofNat {α : Type} (l : List α) (i : Nat) : L2.atI l (i : Int) = l[i]? := by
  unfold L2.atI L2.ixN
  rw [if_pos (by omega)]
  by_cases h : i < l.length
  · rw [if_pos (by omega)]; simp
  · rw [if_neg (by omega), List.getElem?_eq_none (by omega)]; rfl
@[simp] theorem atI_2 {α : Type} (l : List α) : L2.atI l (2 : Int) = l[2]? := atI_ofNat l 2
@[simp] theorem atI_3 {α : Type} (l : List α) : L2.atI l (3 : Int) = l[3]? := atI_ofNat l 3
@[simp] theorem atI_4 {α : Type} (l : List α) : L2.atI l (4 : Int) = l[4]? := atI_ofNat l 4
@[simp] theorem atI_5 {α : Type} (l : List α) : L2.atI l (5 : Int) = l[5]? := atI_ofNat l 5
@[simp] theorem atI_6 {α : Type} (l : List α) : L2.atI l (6 : Int) = l[6]? := atI_ofNat l 6
@[simp] theorem atI_7 {α : Type} (l : List α) : L2.atI l (7 : Int) = l[7]? := atI_ofNat l 7
@[simp] theorem atI_8 {α : Type} (l : List α) : L2.atI l (8 : Int) = l[8]? := atI_ofNat l 8
@[simp] theorem atI_9 {α : Type} (l : List α) : L2.atI l (9 : Int) = l[9]? := atI_ofNat l 9
@[simp] theorem atI_0 {α : Type} (l : List α) : L2.atI l (0 : Int) = l[0]? := atI_ofNat l 0
@[simp] theorem atI_1 {α : Type} (l : List α) : L2.atI l (1 : Int) = l[1]? := atI_ofNat l 1
/-- the context of a def's body -/
abbrev CC (P : Pr) (wf k b : Nat) : Cc := ⟨runX P wf k, wf, b, P.sub⟩
/-- how a def ends -/
def fin : Option Rs → Option (D × Sto)
  | some (.rt d s) => some (d, s)
  | some (.nx _ s) => some (.non, s)
  | _ => none
def finX : Option Rs → Option (Rv × Sto)
  | some (.rt d s) => some (.ok d, s)
  | some (.nx _ s) => some (.ok .non, s)
  | some (.ex c fs _ s) => some (.ex c fs, s)
  | _ => none
@[simp] theorem fin_rt (d : D) (s : Sto) : fin (some (.rt d s)) = some (d, s) := rfl
@[simp] theorem fin_nx (e : En) (s : Sto) : fin (some (.nx e s)) = some (.non, s) := rfl
@[simp] theorem finX_rt (d : D) (s : Sto) : finX (some (.rt d s)) = some (.ok d, s) := rfl
@[simp] theorem finX_nx (e : En) (s : Sto) : finX (some (.nx e s)) = some (.ok .non, s) := rfl
@[simp] theorem finX_ex (c : Str) (fs : List (Str × D)) (e : En) (s : Sto) : finX (some (.ex c fs e s)) = some (.ex c fs, s) := rfl
theorem goX {P : Pr} {wf k i : Nat} {f : Df} {ds : List D} {s : Sto} (hi : P.df i = some f) (hl : ds.length = f.np) : runX P wf (k + 1) i ds s = finX (exSs (CC P wf k s.length) f.body (ds.map some ++ List.replicate (f.ns - f.np) none) s) := by
  simp only [runX, hi, Df.go, hl, if_true]
  unfold finX
  split <;> simp_all
theorem go {P : Pr} {wf k i : Nat} {f : Df} {ds : List D} {s : Sto} (hi : P.df i = some f) (hl : ds.length = f.np) : run P wf (k + 1) i ds s = fin (exSs (CC P wf k s.length) f.body (ds.map some ++ List.replicate (f.ns - f.np) none) s) := by
  unfold run
  rw [goX hi hl]
  generalize exSs _ _ _ _ = r
  rcases r with _ | r
  · rfl
  · cases r <;> rfl
theorem val_ok {d : D} {s : Sto} : Rv.val (some (.ok d, s)) = some (d, s) := rfl
theorem run_ok {P : Pr} {wf k i : Nat} {ds : List D} {s s' : Sto} {d : D} (h : runX P wf k i ds s = some (.ok d, s')) : run P wf k i ds s = some (d, s') := by unfold run; rw [h]; rfl
theorem ok_run {P : Pr} {wf k i : Nat} {ds : List D} {s s' : Sto} {d : D} (h : run P wf k i ds s = some (d, s')) : runX P wf k i ds s = some (.ok d, s') := by
  unfold run Rv.val at h
  split at h
  · rename_i e; cases h; exact e
  · cases h
/-- one statement ahead -/
theorem st {β : Type} {F : Option Rs → β} {x : β} {C : Cc} {a : S} {r : Ss} {env e1 : En} {s s1 : Sto} (h : exS C a env s = some (.nx e1 s1)) (h2 : F (exSs C r e1 s1) = x) : F (exSs C (.cons a r) env s) = x := by
  simp only [exSs, h, h2]
theorem stA {C : Cc} {a : S} {r : Ss} {env e1 : En} {s s1 : Sto} {x : Option Rs} (h : exS C a env s = some (.nx e1 s1)) (h2 : exSs C r e1 s1 = x) : exSs C (.cons a r) env s = x := by
  simp only [exSs, h, h2]
theorem stRt {C : Cc} {a : S} {r : Ss} {env : En} {s s1 : Sto} {d : D} (h : exS C a env s = some (.rt d s1)) : exSs C (.cons a r) env s = some (.rt d s1) := by
  simp only [exSs, h]
/-- a def without references -/
theorem pure_call {P : Pr} {wf k i : Nat} {ds : List D} {d : D} {s' : Sto} (hc : clL ds = true) (h : run P wf k i ds [] = some (d, s')) (hd : d.cl = true) (b : Nat) (s : Sto) : (CC P wf k b).run true i ds s = some (d, s) := by
  have h' : (CC P wf k b).fn i ds [] = some (d, s') := h
  simp only [Cc.run, hc, h', hd, if_true]
theorem pure_callX {P : Pr} {wf k i : Nat} {ds : List D} {d : Rv} {s' : Sto} (hc : clL ds = true) (h : runX P wf k i ds [] = some (d, s')) (hd : d.cl = true) (b : Nat) (s : Sto) : (CC P wf k b).runX true i ds s = some (d, s) := by
  simp only [Cc.runX, hc, h, hd, if_true]
/-- what it gives as a value -/
theorem run_of_X {C : Cc} {i : Nat} {ds : List D} {d : D} {s s' : Sto} {p : Bool} (h : C.runX p i ds s = some (.ok d, s')) : C.run p i ds s = some (d, s') := by
  cases p with
  | false => unfold Cc.runX at h; unfold Cc.run Cc.fn; simp only at h ⊢; rw [h]; rfl
  | true =>
    unfold Cc.runX at h; unfold Cc.run Cc.fn
    simp only at h ⊢
    split at h
    · rename_i hc
      rw [if_pos hc]
      split at h
      · rename_i r s1 e
        split at h
        · rename_i hr
          cases h
          rw [e]
          exact if_pos hr
        · cases h
      · cases h
    · cases h
theorem own_call {C : Cc} {i : Nat} {ds : List D} {s : Sto} : C.run false i ds s = C.fn i ds s := rfl
@[simp] theorem own_CC {P : Pr} {wf k b i : Nat} {ds : List D} {s : Sto} : Cc.run ⟨runX P wf k, wf, b, P.sub⟩ false i ds s = run P wf k i ds s := rfl
@[simp] theorem ownX_CC {P : Pr} {wf k b i : Nat} {ds : List D} {s : Sto} : Cc.runX ⟨runX P wf k, wf, b, P.sub⟩ false i ds s = runX P wf k i ds s := rfl
@[simp] theorem fn_CC {P : Pr} {wf k b i : Nat} {ds : List D} {s : Sto} : Cc.fn ⟨runX P wf k, wf, b, P.sub⟩ i ds s = run P wf k i ds s := rfl
@[simp] theorem addI (i j : Int) : evBin .add (.int i) (.int j) = some (.int (i + j)) := rfl
@[simp] theorem subI (i j : Int) : evBin .sub (.int i) (.int j) = some (.int (i - j)) := rfl
@[simp] theorem ltI (i j : Int) : evCmp .lt (.int i) (.int j) = some (decide (i < j)) := rfl
@[simp] theorem leI (i j : Int) : evCmp .le (.int i) (.int j) = some (decide (i ≤ j)) := rfl
@[simp] theorem gtI (i j : Int) : evCmp .gt (.int i) (.int j) = some (decide (j < i)) := rfl
@[simp] theorem geI (i j : Int) : evCmp .ge (.int i) (.int j) = some (decide (j ≤ i)) := rfl
theorem eqI (i j : Int) : evCmp .eq (.int i) (.int j) = some (i == j) := rfl
theorem strs_map : ∀ l : List Str, strsD (l.map D.str) = some l
  | [] => rfl
  | x :: l => by simp only [List.map_cons, strsD, strs_map l, Option.map_some]
end Fw

/-! Fw, part N: the evaluator's equations, for simp (printed by genM.py). -/
namespace Fw
open PySem
variable {C : Cc} {env : En} {s : Sto} {xf : List (Str × D)}
section
/-- the block's names -/
def ownOK (g : G) (own : List Nat) : Bool := g.slots.all fun i => own.contains i
@[simp] theorem own1 (i : Nat) : ownOK (.name i) [i] = true := by simp [ownOK, G.slots]
@[simp] theorem own2 (i j : Nat) : ownOK (.tup (Gs.of [.name i, .name j])) [i, j] = true := by simp [ownOK, G.slots, Gs.slots, Gs.of]
def joinF (u v : D) (s : Sto) : Option (D × Sto) := match u, v with
    | .str x, .lst ds => (strsD ds).bind fun ys => if (ys.map (·.length)).sum + ys.length * x.length ≤ ZL then some (.str (Txt.join x ys), s) else none
    | _, _ => none
/-- a comprehension's one turn -/
def lcF (C : Cc) (env : En) (g : G) (t : T) (e : E) (own : List Nat) (d : D) (s1 : Sto) : Option (Option D × Sto) := (asgG g d (wipeD env own)).bind fun e1 => (evT C e1 t s1).bind fun q => match q.1 with
        | true => (evE C e1 e q.2).map fun r => (some r.1, r.2)
        | false => some (none, q.2)
def forE (C : Cc) (g : G) (b : Ss) (l : List D) (env : En) (s : Sto) : Option Rs := forV (fun e s1 => exSs C b e s1) g l env s
def whlE (C : Cc) (t : T) (b : Ss) (env : En) (s : Sto) : Option Rs := whileF (fun e s1 => evT C e t s1) (fun e s1 => exSs C b e s1) C.wf env s
@[simp] theorem evE_var : evE C env (.var i) s = match env[i]? with
    | some (some d) => some (d, s)
    | _ => none := by first | (simp only [evE]; done) | (simp only [evE]; rfl)
@[simp] theorem evE_non : evE C env .non s = some (.non, s) := by first | (simp only [evE]; done) | (simp only [evE]; rfl)
@[simp] theorem evE_bl : evE C env (.bl b) s = some (.bl b, s) := by first | (simp only [evE]; done) | (simp only [evE]; rfl)
@[simp] theorem evE_int : evE C env (.int i) s = some (.int i, s) := by first | (simp only [evE]; done) | (simp only [evE]; rfl)
@[simp] theorem evE_str : evE C env (.str x) s = some (.str x, s) := by first | (simp only [evE]; done) | (simp only [evE]; rfl)
@[simp] theorem evE_tup : evE C env (.tup es) s = (evEs C env es s).bind fun p => if p.1.length ≤ ZL then some (.tup p.1, p.2) else none := by first | (simp only [evE]; done) | (simp only [evE]; rfl)
@[simp] theorem evE_lst : evE C env (.lst es) s = (evEs C env es s).bind fun p => if p.1.length ≤ ZL then some (.lst p.1, p.2) else none := by first | (simp only [evE]; done) | (simp only [evE]; rfl)
@[simp] theorem evE_newL : evE C env (.newL es) s = (evEs C env es s).bind fun p => if p.1.length ≤ ZL then some (.obj p.2.length, p.2 ++ [some (.lst p.1)]) else none := by first | (simp only [evE]; done) | (simp only [evE]; rfl)
@[simp] theorem evE_newK : evE C env .newK s = some (.obj s.length, s ++ [some (.dK [])]) := by first | (simp only [evE]; done) | (simp only [evE]; rfl)
@[simp] theorem evE_newT : evE C env .newT s = some (.obj s.length, s ++ [some (.dT [])]) := by first | (simp only [evE]; done) | (simp only [evE]; rfl)
@[simp] theorem evE_disp : evE C env (.disp ks es) s = (evEs C env es s).bind fun p => if p.1.length = ks.length ∧ ks.length ≤ 15 then some (.obj p.2.length, p.2 ++ [some (.dK (mergeD [] ((ks.map Sum.inr).zip p.1)))]) else none := by first | (simp only [evE]; done) | (simp only [evE]; rfl)
@[simp] theorem evE_bin : evE C env (.bin o a b) s = (evE C env a s).bind fun p => (evE C env b p.2).bind fun q => (evBin o p.1 q.1).map fun d => (d, q.2) := by first | (simp only [evE]; done) | (simp only [evE]; rfl)
@[simp] theorem evE_cmp : evE C env (.cmp o a b) s = (evE C env a s).bind fun p => (evE C env b p.2).bind fun q => (evCmp o p.1 q.1).map fun r => (.bl r, q.2) := by first | (simp only [evE]; done) | (simp only [evE]; rfl)
@[simp] theorem evE_chn : evE C env (.chn o o' a b c) s = (evE C env a s).bind fun p => (evE C env b p.2).bind fun q => (evCmp o p.1 q.1).bind fun r =>
      if r = true then (evE C env c q.2).bind fun u => (evCmp o' q.1 u.1).map fun r' => (.bl r', u.2) else some (.bl false, q.2) := by first | (simp only [evE]; done) | (simp only [evE]; rfl)
@[simp] theorem evE_not : evE C env (.not a) s = (evE C env a s).bind fun p => match p.1 with
    | .bl b => some (.bl (!b), p.2)
    | _ => none := by first | (simp only [evE]; done) | (simp only [evE]; rfl)
@[simp] theorem evE_and : evE C env (.and a b) s = (evE C env a s).bind fun p => match p.1 with
    | .bl true => evE C env b p.2
    | .bl false => some (.bl false, p.2)
    | _ => none := by first | (simp only [evE]; done) | (simp only [evE]; rfl)
@[simp] theorem evE_or : evE C env (.or a b) s = (evE C env a s).bind fun p => match p.1 with
    | .bl true => some (.bl true, p.2)
    | .bl false => evE C env b p.2
    | _ => none := by first | (simp only [evE]; done) | (simp only [evE]; rfl)
@[simp] theorem evE_ife : evE C env (.ife t a b) s = (evT C env t s).bind fun p => match p.1 with
    | true => evE C env a p.2
    | false => evE C env b p.2 := by first | (simp only [evE]; done) | (simp only [evE]; rfl)
@[simp] theorem evE_idx : evE C env (.idx a b) s = (evE C env a s).bind fun p => (evE C env b p.2).bind fun q => (atD q.2 p.1 q.1).map fun d => (d, q.2) := by first | (simp only [evE]; done) | (simp only [evE]; rfl)
@[simp] theorem evE_dget : evE C env (.dget a k) s = (evE C env a s).bind fun p => (evE C env k p.2).bind fun q => match dLook q.2 p.1 q.1 with
    | some (some d) => some (d, q.2)
    | _ => none := by first | (simp only [evE]; done) | (simp only [evE]; rfl)
@[simp] theorem evE_din : evE C env (.din k a) s = (evE C env k s).bind fun p => (evE C env a p.2).bind fun q => (dLook q.2 q.1 p.1).map fun o => (.bl o.isSome, q.2) := by first | (simp only [evE]; done) | (simp only [evE]; rfl)
@[simp] theorem evE_dnin : evE C env (.dnin k a) s = (evE C env k s).bind fun p => (evE C env a p.2).bind fun q => (dLook q.2 q.1 p.1).map fun o => (.bl (!o.isSome), q.2) := by first | (simp only [evE]; done) | (simp only [evE]; rfl)
@[simp] theorem evE_slc : evE C env (.slc a lo hi) s = (evE C env a s).bind fun p => (evOe C env lo p.2).bind fun q => (evOe C env hi q.2).bind fun r => (slcD p.1 q.1 r.1).map fun d => (d, r.2) := by first | (simp only [evE]; done) | (simp only [evE]; rfl)
@[simp] theorem evE_call : evE C env (.call p i es) s = (evEs C env es s).bind fun q => C.run p i q.1 q.2 := by first | (simp only [evE]; done) | (simp only [evE]; rfl)
@[simp] theorem evE_callK : evE C env (.callK p i perm es ks) s = (evEs C env es s).bind fun q => (evEs C env ks q.2).bind fun r => C.run p i (permL .non es.n perm q.1 r.1) r.2 := by first | (simp only [evE]; done) | (simp only [evE]; rfl)
@[simp] theorem evE_b1 : evE C env (.b1 f a) s = (evE C env a s).bind fun p => (evB1 p.2 f p.1).map fun d => (d, p.2) := by first | (simp only [evE]; done) | (simp only [evE]; rfl)
@[simp] theorem evE_newLst : evE C env (.newLst a) s = (evE C env a s).bind fun p => (listD p.2 p.1).map fun ds => (.obj p.2.length, p.2 ++ [some (.lst ds)]) := by first | (simp only [evE]; done) | (simp only [evE]; rfl)
@[simp] theorem evE_tupRg : evE C env (.tupRg a) s = (evE C env a s).bind fun p => match p.1 with
    | .int n => if 0 ≤ n ∧ n ≤ ZL then some (.tup (rgD n), p.2) else none
    | _ => none := by first | (simp only [evE]; done) | (simp only [evE]; rfl)
@[simp] theorem evE_lstRg : evE C env (.lstRg a) s = (evE C env a s).bind fun p => match p.1 with
    | .int n => if 0 ≤ n ∧ n ≤ ZL then some (.lst (rgD n), p.2) else none
    | _ => none := by first | (simp only [evE]; done) | (simp only [evE]; rfl)
@[simp] theorem evE_newLstRg : evE C env (.newLstRg a) s = (evE C env a s).bind fun p => match p.1 with
    | .int n => if 0 ≤ n ∧ n ≤ ZL then some (.obj p.2.length, p.2 ++ [some (.lst (rgD n))]) else none
    | _ => none := by first | (simp only [evE]; done) | (simp only [evE]; rfl)
@[simp] theorem evE_max2 : evE C env (.max2 a b) s = (evE C env a s).bind fun p => (evE C env b p.2).bind fun q => match p.1, q.1 with
    | .int i, .int j => some (.int (if j > i then j else i), q.2)
    | _, _ => none := by first | (simp only [evE]; done) | (simp only [evE]; rfl)
@[simp] theorem evE_isI : evE C env (.isI a c) s = (evE C env a s).bind fun p => (isID p.2 p.1 c).map fun b => (.bl b, p.2) := by first | (simp only [evE]; done) | (simp only [evE]; rfl)
@[simp] theorem evE_join : evE C env (.join a b) s = (evE C env a s).bind fun p => (evE C env b p.2).bind fun q => joinF p.1 q.1 q.2 := by simp only [evE]; rfl
@[simp] theorem evE_pop : evE C env (.pop a) s = (evE C env a s).bind fun p => match p.1 with
    | .obj n => match getO p.2 n with
      | some (.lst xs) => match xs[xs.length - 1]? with
        | some d => some (d, setO p.2 n (some (.lst xs.dropLast)))
        | none => none
      | _ => none
    | _ => none := by first | (simp only [evE]; done) | (simp only [evE]; rfl)
@[simp] theorem evE_popAt : evE C env (.popAt a b) s = (evE C env a s).bind fun p => (evE C env b p.2).bind fun q => match p.1, q.1 with
    | .obj n, .int i => match getO q.2 n with
      | some (.lst xs) => if 0 ≤ i ∧ i < 2 ^ 63 then match xs[i.toNat]? with
          | some d => match getO p.2 n with
            | some (.lst _) => some (d, setO q.2 n (some (.lst (xs.eraseIdx i.toNat))))
            | _ => none
          | none => none
        else none
      | _ => none
    | _, _ => none := by first | (simp only [evE]; done) | (simp only [evE]; rfl)
@[simp] theorem evE_app : evE C env (.app a b) s = (evE C env a s).bind fun p => (evE C env b p.2).bind fun q => match p.1 with
    | .obj n => match getO p.2 n, getO q.2 n with
      | some (.lst _), some (.lst xs) => if xs.length < ZL then some (.non, setO q.2 n (some (.lst (xs ++ [q.1])))) else none
      | _, _ => none
    | _ => none := by first | (simp only [evE]; done) | (simp only [evE]; rfl)
@[simp] theorem evE_ext : evE C env (.ext a b) s = (evE C env a s).bind fun p => (evE C env b p.2).bind fun q => match p.1, q.1 with
    | .obj n, .lst ys => match getO p.2 n, getO q.2 n with
      | some (.lst _), some (.lst xs) => if xs.length + ys.length ≤ ZL then some (.non, setO q.2 n (some (.lst (xs ++ ys)))) else none
      | _, _ => none
    | _, _ => none := by first | (simp only [evE]; done) | (simp only [evE]; rfl)
@[simp] theorem evE_newSort : evE C env (.newSort a) s = (evE C env a s).bind fun p => match p.1 with
    | .obj n => match getO p.2 n with
      | some (.lst xs) => if xs.length ≤ 60 then (keysOf xs).map fun ks => (.obj p.2.length, p.2 ++ [some (.lst ((sortK ks).map (·.2)))]) else none
      | _ => none
    | _ => none := by first | (simp only [evE]; done) | (simp only [evE]; rfl)
@[simp] theorem evE_fld : evE C env (.fld a f) s = (evE C env a s).bind fun p => match p.1 with
    | .obj n => match getO p.2 n with
      | some (.ins _ fs) => (fs.lookup f).map fun d => (d, p.2)
      | _ => none
    | _ => none := by first | (simp only [evE]; done) | (simp only [evE]; rfl)
@[simp] theorem evE_mk : evE C env (.mk c i es) s = (evEs C env es s).bind fun q => match C.fn i (.obj q.2.length :: q.1) (q.2 ++ [some (.ins c [])]) with
    | some (.non, s') => some (.obj q.2.length, s')
    | _ => none := by first | (simp only [evE]; done) | (simp only [evE]; rfl)
@[simp] theorem evE_meth : evE C env (.meth c m i a es) s = (evE C env a s).bind fun p => match p.1 with
    | .obj n => match getO p.2 n with
      | some (.ins c' fs) => if c' = c ∧ fs.lookup m = none then (evEs C env es p.2).bind fun q => C.fn i (.obj n :: q.1) q.2 else none
      | _ => none
    | _ => none := by first | (simp only [evE]; done) | (simp only [evE]; rfl)
@[simp] theorem evE_mkK : evE C env (.mkK c i perm es ks) s = (evEs C env es s).bind fun q => (evEs C env ks q.2).bind fun r => match C.fn i (permL .non (es.n + 1) perm (.obj r.2.length :: q.1) r.1) (r.2 ++ [some (.ins c [])]) with
    | some (.non, s') => some (.obj r.2.length, s')
    | _ => none := by first | (simp only [evE]; done) | (simp only [evE]; rfl)
@[simp] theorem evE_methK : evE C env (.methK c m i perm a es ks) s = (evE C env a s).bind fun p => match p.1 with
    | .obj n => match getO p.2 n with
      | some (.ins c' fs) => if c' = c ∧ fs.lookup m = none then (evEs C env es p.2).bind fun q => (evEs C env ks q.2).bind fun r => C.fn i (permL .non (es.n + 1) perm (.obj n :: q.1) r.1) r.2 else none
      | _ => none
    | _ => none := by first | (simp only [evE]; done) | (simp only [evE]; rfl)
@[simp] theorem evE_rev : evE C env (.rev a) s = (evE C env a s).bind fun p => match p.1 with
    | .tup xs => some (.tup xs.reverse, p.2)
    | .lst xs => some (.lst xs.reverse, p.2)
    | _ => none := by first | (simp only [evE]; done) | (simp only [evE]; rfl)
@[simp] theorem evE_sort : evE C env (.sort a) s = (evE C env a s).bind fun p => (listD p.2 p.1).bind fun ds => (sortDs ds).map fun es => (.lst es, p.2) := by first | (simp only [evE]; done) | (simp only [evE]; rfl)
@[simp] theorem evE_lc : evE C env (.lc g it t e own) s = if ownOK g own = true then (evI C env it s).bind fun p => (srcGo (lcF C env g t e own) p.1 p.2).map fun q => (.lst q.1, q.2) else none := by simp only [evE]; rfl
@[simp] theorem evE_newLc : evE C env (.newLc g it t e own) s = if ownOK g own = true then (evI C env it s).bind fun p => (srcGo (lcF C env g t e own) p.1 p.2).map fun q => (.obj q.2.length, q.2 ++ [some (.lst q.1)]) else none := by simp only [evE]; rfl
@[simp] theorem evEs_nil : evEs C env .nil s = some ([], s) := by first | (simp only [evEs]; done) | (simp only [evEs]; rfl)
@[simp] theorem evEs_cons : evEs C env (.cons e es) s = (evE C env e s).bind fun p => (evEs C env es p.2).map fun q => (p.1 :: q.1, q.2) := by first | (simp only [evEs]; done) | (simp only [evEs]; rfl)
@[simp] theorem evOe_none : evOe C env .none s = some (none, s) := by first | (simp only [evOe]; done) | (simp only [evOe]; rfl)
@[simp] theorem evOe_some : evOe C env (.some e) s = (evE C env e s).bind fun p => match p.1 with
    | .int i => some (some i, p.2)
    | _ => none := by first | (simp only [evOe]; done) | (simp only [evOe]; rfl)
@[simp] theorem evT_yes : evT C env .yes s = some (true, s) := by first | (simp only [evT]; done) | (simp only [evT]; rfl)
@[simp] theorem evT_tru : evT C env (.tru e) s = (evE C env e s).bind fun p => (truD p.2 p.1).map fun b => (b, p.2) := by first | (simp only [evT]; done) | (simp only [evT]; rfl)
@[simp] theorem evT_val : evT C env (.val e) s = (evE C env e s).bind fun p => match p.1 with
    | .bl b => some (b, p.2)
    | _ => none := by first | (simp only [evT]; done) | (simp only [evT]; rfl)
@[simp] theorem evT_and : evT C env (.and a b) s = (evT C env a s).bind fun p => match p.1 with
    | true => evT C env b p.2
    | false => some (false, p.2) := by first | (simp only [evT]; done) | (simp only [evT]; rfl)
@[simp] theorem evT_or : evT C env (.or a b) s = (evT C env a s).bind fun p => match p.1 with
    | true => some (true, p.2)
    | false => evT C env b p.2 := by first | (simp only [evT]; done) | (simp only [evT]; rfl)
@[simp] theorem evT_not : evT C env (.not a) s = (evT C env a s).map fun p => (!p.1, p.2) := by first | (simp only [evT]; done) | (simp only [evT]; rfl)
@[simp] theorem evI_seq : evI C env (.seq e) s = (evE C env e s).bind fun p => (seqSrc p.2 p.1).map fun r => (r, p.2) := by first | (simp only [evI]; done) | (simp only [evI]; rfl)
@[simp] theorem evI_rng1 : evI C env (.rng1 e) s = (evE C env e s).bind fun p => match p.1 with
    | .int n => if -(ZL : Int) ≤ n ∧ n ≤ ZL then some (.vals (rgD n), p.2) else none
    | _ => none := by first | (simp only [evI]; done) | (simp only [evI]; rfl)
@[simp] theorem evI_rng2 : evI C env (.rng2 a b) s = (evE C env a s).bind fun p => (evE C env b p.2).bind fun q => match p.1, q.1 with
    | .int i, .int j => if -(ZL : Int) ≤ i ∧ i ≤ ZL ∧ -(ZL : Int) ≤ j ∧ j ≤ ZL then some (.vals (rg2D i j), q.2) else none
    | _, _ => none := by first | (simp only [evI]; done) | (simp only [evI]; rfl)
@[simp] theorem evI_zip : evI C env (.zip a b) s = (evE C env a s).bind fun p => (evE C env b p.2).bind fun q => (zipSrc p.1 q.1).map fun r => (r, q.2) := by first | (simp only [evI]; done) | (simp only [evI]; rfl)
@[simp] theorem evI_enum : evI C env (.enum e) s = (evE C env e s).bind fun p => (enumSrc p.1).map fun r => (r, p.2) := by first | (simp only [evI]; done) | (simp only [evI]; rfl)
@[simp] theorem evI_keys : evI C env (.keys i) s = none := by first | (simp only [evI]; done) | (simp only [evI]; rfl)
@[simp] theorem evX_e : evX C env (.e a) s = (evE C env a s).map fun p => (.ok p.1, p.2) := by first | (simp only [evX]; done) | (simp only [evX]; rfl)
@[simp] theorem evX_call : evX C env (.call p i es) s = (evEs C env es s).bind fun q => C.runX p i q.1 q.2 := by first | (simp only [evX]; done) | (simp only [evX]; rfl)
@[simp] theorem evX_callK : evX C env (.callK p i perm es ks) s = (evEs C env es s).bind fun q => (evEs C env ks q.2).bind fun r => C.runX p i (permL .non es.n perm q.1 r.1) r.2 := by first | (simp only [evX]; done) | (simp only [evX]; rfl)
@[simp] theorem evX_meth : evX C env (.meth c m i a es) s = (evE C env a s).bind fun p => match p.1 with
    | .obj n => match getO p.2 n with
      | some (.ins c' fs) => if c' = c ∧ fs.lookup m = none then (evEs C env es p.2).bind fun q => C.fx i (.obj n :: q.1) q.2 else none
      | _ => none
    | _ => none := by first | (simp only [evX]; done) | (simp only [evX]; rfl)
@[simp] theorem evX_tup : evX C env (.tup xs) s = match evXs C env xs s with
    | some (.ok (.tup ds), s1) => if ds.length ≤ ZL then some (.ok (.tup ds), s1) else none
    | some (.ex c fs, s1) => some (.ex c fs, s1)
    | _ => none := by first | (simp only [evX]; done) | (simp only [evX]; rfl)
@[simp] theorem evX_lst : evX C env (.lst xs) s = match evXs C env xs s with
    | some (.ok (.tup ds), s1) => if ds.length ≤ ZL then some (.ok (.lst ds), s1) else none
    | some (.ex c fs, s1) => some (.ex c fs, s1)
    | _ => none := by first | (simp only [evX]; done) | (simp only [evX]; rfl)
@[simp] theorem evX_ife : evX C env (.ife t a b) s = (evT C env t s).bind fun p => match p.1 with
    | true => evX C env a p.2
    | false => evX C env b p.2 := by first | (simp only [evX]; done) | (simp only [evX]; rfl)
@[simp] theorem evX_idx : evX C env (.idx x b) s = match evX C env x s with
    | some (.ok d, s1) => (evE C env b s1).bind fun q => (atD q.2 d q.1).map fun d => (.ok d, q.2)
    | some (.ex c fs, s1) => some (.ex c fs, s1)
    | none => none := by first | (simp only [evX]; done) | (simp only [evX]; rfl)
@[simp] theorem evX_bin : evX C env (.bin o x y) s = match evX C env x s with
    | some (.ok d, s1) => match evX C env y s1 with
      | some (.ok d2, s2) => (evBin o d d2).map fun d => (.ok d, s2)
      | some (.ex c fs, s2) => some (.ex c fs, s2)
      | none => none
    | some (.ex c fs, s1) => some (.ex c fs, s1)
    | none => none := by first | (simp only [evX]; done) | (simp only [evX]; rfl)
@[simp] theorem evXs_nil : evXs C env .nil s = some (.ok (.tup []), s) := by first | (simp only [evXs]; done) | (simp only [evXs]; rfl)
@[simp] theorem evXs_cons : evXs C env (.cons x xs) s = match evX C env x s with
    | some (.ok d, s1) => match evXs C env xs s1 with
      | some (.ok (.tup ds), s2) => some (.ok (.tup (d :: ds)), s2)
      | some (.ex c fs, s2) => some (.ex c fs, s2)
      | _ => none
    | some (.ex c fs, s1) => some (.ex c fs, s1)
    | none => none := by first | (simp only [evXs]; done) | (simp only [evXs]; rfl)
@[simp] theorem evHE_e : evHE C env xf (.e a) s = evE C env a s := by first | (simp only [evHE]; done) | (simp only [evHE]; rfl)
@[simp] theorem evHE_xf : evHE C env xf (.xf f) s = (xf.lookup f).map fun d => (d, s) := by first | (simp only [evHE]; done) | (simp only [evHE]; rfl)
@[simp] theorem evHE_tup : evHE C env xf (.tup hs) s = (evHEs C env xf hs s).bind fun p => if p.1.length ≤ ZL then some (.tup p.1, p.2) else none := by first | (simp only [evHE]; done) | (simp only [evHE]; rfl)
@[simp] theorem evHEs_nil : evHEs C env xf .nil s = some ([], s) := by first | (simp only [evHEs]; done) | (simp only [evHEs]; rfl)
@[simp] theorem evHEs_cons : evHEs C env xf (.cons h hs) s = (evHE C env xf h s).bind fun p => (evHEs C env xf hs p.2).map fun q => (p.1 :: q.1, q.2) := by first | (simp only [evHEs]; done) | (simp only [evHEs]; rfl)
@[simp] theorem exSs_nil : exSs C .nil env s = some (.nx env s) := by first | (simp only [exSs]; done) | (simp only [exSs]; rfl)
@[simp] theorem exSs_cons : exSs C (.cons a r) env s = match exS C a env s with
    | some (.nx e1 s1) => exSs C r e1 s1
    | x => x := by first | (simp only [exSs]; done) | (simp only [exSs]; rfl)
@[simp] theorem exSs_frz : exSs C (.frz i r) env s = (frzS C.bs i env s).bind fun p => exSs C r p.1 p.2 := by first | (simp only [exSs]; done) | (simp only [exSs]; rfl)
@[simp] theorem exS_retX : exS C (.retX x) env s = match evX C env x s with
    | some (.ok d, s1) => some (.rt d s1)
    | some (.ex c fs, s1) => some (.ex c fs env s1)
    | none => none := by first | (simp only [exS]; done) | (simp only [exS]; rfl)
@[simp] theorem exS_exprX : exS C (.exprX x) env s = match evX C env x s with
    | some (.ok _, s1) => some (.nx env s1)
    | some (.ex c fs, s1) => some (.ex c fs env s1)
    | none => none := by first | (simp only [exS]; done) | (simp only [exS]; rfl)
@[simp] theorem exS_asgX : exS C (.asgX g x) env s = match evX C env x s with
    | some (.ok d, s1) => (asgG g d env).map fun e1 => .nx e1 s1
    | some (.ex c fs, s1) => some (.ex c fs env s1)
    | none => none := by first | (simp only [exS]; done) | (simp only [exS]; rfl)
@[simp] theorem exS_raise : exS C (.raise c fs es) env s = (evEs C env es s).bind fun p => if p.1.length = fs.length then some (.ex c (fs.zip p.1).reverse env p.2) else none := by first | (simp only [exS]; done) | (simp only [exS]; rfl)
@[simp] theorem exS_try_ : exS C (.try_ b hs) env s = match exSs C b env s with
    | some (.ex c fs e1 s1) => handle C c fs e1 s1 hs
    | r => r := by first | (simp only [exS]; done) | (simp only [exS]; rfl)
@[simp] theorem exS_setp : exS C (.setp o i o2 i2 e e2) env s = (evE C env e s).bind fun p => (evE C env e2 p.2).bind fun p2 => (evE C env o p2.2).bind fun q => (evE C env i q.2).bind fun r => (setiF q.1 r.1 p.1 r.2).bind fun s1 =>
      (evE C env o2 s1).bind fun q2 => (evE C env i2 q2.2).bind fun r2 => (setiF q2.1 r2.1 p2.1 r2.2).map fun s2 => .nx env s2 := by first | (simp only [exS]; done) | (simp only [exS]; rfl)
@[simp] theorem exS_sfld : exS C (.sfld c o f e) env s = (evE C env e s).bind fun p => (evE C env o p.2).bind fun q => match q.1 with
    | .obj n => match getO q.2 n with
      | some (.ins c' fs) => if c' = c ∧ fs.length < 1000 then some (.nx env (setO q.2 n (some (.ins c (putFD f p.1 fs))))) else none
      | _ => none
    | _ => none := by first | (simp only [exS]; done) | (simp only [exS]; rfl)
@[simp] theorem exS_asg : exS C (.asg g e) env s = (evE C env e s).bind fun p => (asgG g p.1 env).map fun e1 => .nx e1 p.2 := by first | (simp only [exS]; done) | (simp only [exS]; rfl)
@[simp] theorem exS_par : exS C (.par i j a b) env s = (evE C env a s).bind fun p => (evE C env b p.2).map fun q => .nx ((env.set i (some p.1)).set j (some q.1)) q.2 := by first | (simp only [exS]; done) | (simp only [exS]; rfl)
@[simp] theorem exS_seti : exS C (.seti o i e) env s = (evE C env e s).bind fun p => (evE C env o p.2).bind fun q => (evE C env i q.2).bind fun r => match q.1, r.1 with
    | .obj n, .int k => match getO r.2 n with
      | some (.lst xs) => match L2.ixN xs.length k with
        | some j => some (.nx env (setO r.2 n (some (.lst (xs.set j p.1)))))
        | none => none
      | _ => none
    | _, _ => none := by first | (simp only [exS]; done) | (simp only [exS]; rfl)
@[simp] theorem exS_dput : exS C (.dput o k e) env s = (evE C env e s).bind fun p => (evE C env o p.2).bind fun q => (evE C env k q.2).bind fun r => match q.1 with
    | .obj n => match getO r.2 n with
      | some (.dK kvs) => if kvs.length < ZL then (toKey r.1).map fun k' => .nx env (setO r.2 n (some (.dK (putD kvs k' p.1)))) else none
      | some (.dT kvs) => if kvs.length < ZL then match r.1 with
          | .tup ds => (toKeys ds).map fun k' => .nx env (setO r.2 n (some (.dT (putD kvs k' p.1))))
          | _ => none
        else none
      | _ => none
    | _ => none := by first | (simp only [exS]; done) | (simp only [exS]; rfl)
@[simp] theorem exS_expr : exS C (.expr e) env s = (evE C env e s).map fun p => .nx env p.2 := by first | (simp only [exS]; done) | (simp only [exS]; rfl)
@[simp] theorem exS_ret : exS C (.ret e) env s = (evE C env e s).map fun p => .rt p.1 p.2 := by first | (simp only [exS]; done) | (simp only [exS]; rfl)
@[simp] theorem exS_ife : exS C (.ife t a b) env s = (evT C env t s).bind fun p => match p.1 with
    | true => exSs C a env p.2
    | false => exSs C b env p.2 := by first | (simp only [exS]; done) | (simp only [exS]; rfl)
@[simp] theorem exS_whl : exS C (.whl t b) env s = whlE C t b env s := by simp only [exS]; rfl
@[simp] theorem exS_for_ : exS C (.for_ g it b) env s = match it with
    | .keys i => (keySrc C.bs s env i).bind fun p => noEx (forE C g b p.1 env p.2)
    | it' => (evI C env it' s).bind fun p => match p.1 with
      | .vals l => forE C g b l env p.2
      | .objl _ _ => none := by cases it <;> (simp only [exS]; rfl)
@[simp] theorem exS_never : exS C .never env s = none := by first | (simp only [exS]; done) | (simp only [exS]; rfl)
@[simp] theorem exS_pass : exS C .pass env s = some (.nx env s) := by first | (simp only [exS]; done) | (simp only [exS]; rfl)
@[simp] theorem exS_brk : exS C .brk env s = some (.bk env s) := by first | (simp only [exS]; done) | (simp only [exS]; rfl)
@[simp] theorem exS_cont : exS C .cont env s = some (.ct env s) := by first | (simp only [exS]; done) | (simp only [exS]; rfl)
end
end Fw

/-! Fw, part O: loops and comprehensions of the evaluator, by invariants. -/
namespace Fw
open PySem
section
variable {C : Cc} {env : En} {s : Sto} {g : G} {b : Ss} {t : T} {e : E} {own : List Nat} {α : Type}
theorem forE_inv (en : α → D) (I : List α → En → Sto → Prop) (l : List α) (h0 : I [] env s)
    (step : ∀ (p : List α) (x : α) (q : List α) (env : En) (s : Sto), l = p ++ x :: q → I p env s → ∃ e1 e2 s2, asgG g (en x) env = some e1 ∧ exSs C b e1 s = some (.nx e2 s2) ∧ I (p ++ [x]) e2 s2) :
    ∃ env' s', forE C g b (l.map en) env s = some (.nx env' s') ∧ I l env' s' := by
  obtain ⟨env', s', h1, h2⟩ := forV_inv (f := fun e s1 => exSs C b e s1) (g := g) en I l [] env s h0 fun p x q env s hl hI => by
    obtain ⟨e1, e2, s2, a, b, c⟩ := step p x q env s hl hI
    exact ⟨e1, e2, s2, a, .inl b, c⟩
  exact ⟨env', s', h1, h2⟩
theorem whlE_inv (I : Nat → En → Sto → Prop) (Q : En → Sto → Prop) (m : Nat) (hm : m < C.wf) (h0 : I m env s)
    (step : ∀ m env s, I m env s → (∃ s', evT C env t s = some (false, s') ∧ Q env s') ∨ (∃ s1 e2 s2 m2, evT C env t s = some (true, s1) ∧ exSs C b env s1 = some (.nx e2 s2) ∧ m2 < m ∧ I m2 e2 s2)) :
    ∃ env' s', whlE C t b env s = some (.nx env' s') ∧ Q env' s' :=
  while_inv (c := fun e s1 => evT C e t s1) (f := fun e s1 => exSs C b e s1) I Q C.wf m env s hm h0 fun m env s hI => by
    rcases step m env s hI with h | ⟨s1, e2, s2, m2, a, b, c, d⟩
    · exact .inl h
    · exact .inr ⟨s1, e2, s2, m2, a, .inl b, c, d⟩
theorem lc_map (en : α → D) (h : α → D) (l : List α) (hl : l.length ≤ 1000000) (hf : ∀ x ∈ l, lcF C env g t e own (en x) s = some (some (h x), s)) : srcGo (lcF C env g t e own) (.vals (l.map en)) s = some (l.map h, s) := by
  rw [srcGo_vals (by rw [List.length_map]; exact hl)]
  exact lcV_map en h l hf
theorem lc_filter (en : α → D) (h : α → Option D) (l : List α) (hl : l.length ≤ 1000000) (hf : ∀ x ∈ l, lcF C env g t e own (en x) s = some (h x, s)) : srcGo (lcF C env g t e own) (.vals (l.map en)) s = some (l.filterMap h, s) := by
  rw [srcGo_vals (by rw [List.length_map]; exact hl)]
  exact lcV_pure en h l hf
theorem lc_inv (en : α → D) (I : List α → List D → Sto → Prop) (l : List α) (hl : l.length ≤ 1000000) (h0 : I [] [] s)
    (step : ∀ (p : List α) (x : α) (q : List α) (acc : List D) (s : Sto), l = p ++ x :: q → I p acc s → ∃ o s', lcF C env g t e own (en x) s = some (o, s') ∧ I (p ++ [x]) (match o with | some d => acc ++ [d] | none => acc) s') :
    ∃ out s', srcGo (lcF C env g t e own) (.vals (l.map en)) s = some (out, s') ∧ I l out s' := by
  rw [srcGo_vals (by rw [List.length_map]; exact hl)]
  exact lcV_inv en I l [] [] h0 step
end
theorem join_len (sep : Str) (ys : List Str) : (Txt.join sep ys).length ≤ (ys.map (·.length)).sum + ys.length * sep.length := by
  show (Builtin.Str.glued sep ys).length ≤ _
  rw [StrLaws.glued_eq_join]
  exact StrLaws.join_length_le sep ys
theorem joinF_ok {α : Type} (x : Str) (f : α → Str) (l : List α) (s : Sto) (h : ((l.map f).map (·.length)).sum + (l.map f).length * x.length ≤ 1000000) : joinF (.str x) (.lst (l.map fun a => .str (f a))) s = some (.str (Txt.join x (l.map f)), s) := by
  have e : strsD (l.map fun a => .str (f a)) = some (l.map f) := by rw [← strs_map, List.map_map]; rfl
  simp only [joinF, e, Option.bind_some]
  exact if_pos h
theorem sum_le {α : Type} (f : α → Nat) (n : Nat) : ∀ l : List α, (∀ x ∈ l, f x ≤ n) → (l.map f).sum ≤ l.length * n
  | [], _ => Nat.zero_le _
  | x :: l, h => by
    have a := h x (List.mem_cons_self ..)
    have b := sum_le f n l fun y m => h y (List.mem_cons_of_mem _ m)
    rw [List.map_cons, List.sum_cons, List.length_cons, Nat.succ_mul]
    omega
/-- a join's length, each part at most n, at most m parts -/
theorem join_le {sep : Str} {ys : List Str} {n m k : Nat} (h : ∀ y ∈ ys, y.length ≤ n) (hm : ys.length ≤ m) (hs : sep.length ≤ k) : (ys.map (·.length)).sum + ys.length * sep.length ≤ m * (n + k) := by
  have a := sum_le (·.length) n ys h
  have b : ys.length * n ≤ m * n := Nat.mul_le_mul_right _ hm
  have c : ys.length * sep.length ≤ m * k := Nat.mul_le_mul hm hs
  rw [Nat.mul_add]
  omega
end Fw

/-! Mx, part A: the store; numbers; lists. For the mathematics of all laws. -/
namespace Mx
open PySem Fw

/-! ### the store -/
theorem getO_lt {s : Sto} {n : Nat} {o : Ob} (h : getO s n = some o) : n < s.length := by
  unfold getO at h
  by_cases hn : n < s.length
  · exact hn
  · rw [List.getElem?_eq_none (by omega)] at h; cases h
theorem getO_ge {s : Sto} {n : Nat} (h : s.length ≤ n) : getO s n = none := by
  unfold getO; rw [List.getElem?_eq_none h]; rfl
@[simp] theorem getO_app0 (s t : Sto) : getO (s ++ t) s.length = getO t 0 := by
  unfold getO; rw [List.getElem?_append_right (Nat.le_refl _), Nat.sub_self]
@[simp] theorem getO_appk (s t : Sto) (k : Nat) : getO (s ++ t) (s.length + k) = getO t k := by
  unfold getO; rw [List.getElem?_append_right (by omega)]; congr 2; omega
theorem getO_appl {s t : Sto} {n : Nat} (h : n < s.length) : getO (s ++ t) n = getO s n := by
  unfold getO; rw [List.getElem?_append_left h]
theorem getO_old {s t : Sto} {n : Nat} {o : Ob} (h : getO s n = some o) : getO (s ++ t) n = some o := by
  rw [getO_appl (getO_lt h)]; exact h
@[simp] theorem setO_app0 (s t : Sto) (o : Option Ob) : setO (s ++ t) s.length o = s ++ setO t 0 o := by
  unfold setO; rw [List.set_append_right _ _ (Nat.le_refl _), Nat.sub_self]
@[simp] theorem setO_appk (s t : Sto) (k : Nat) (o : Option Ob) : setO (s ++ t) (s.length + k) o = s ++ setO t k o := by
  unfold setO; rw [List.set_append_right _ _ (by omega)]; congr 2; omega
theorem setO_appl {s t : Sto} {n : Nat} (h : n < s.length) (o : Option Ob) : setO (s ++ t) n o = setO s n o ++ t := by
  unfold setO; rw [List.set_append_left _ _ h]
@[simp] theorem getO_c0 (o : Option Ob) (s : Sto) : getO (o :: s) 0 = o := rfl
@[simp] theorem getO_c1 (o : Option Ob) (s : Sto) (n : Nat) : getO (o :: s) (n + 1) = getO s n := rfl
@[simp] theorem getO_cl1 (o : Option Ob) (s : Sto) : getO (o :: s) 1 = getO s 0 := rfl
@[simp] theorem getO_cl2 (o p : Option Ob) (s : Sto) : getO (o :: p :: s) 2 = getO s 0 := rfl
@[simp] theorem setO_c0 (o p : Option Ob) (s : Sto) : setO (o :: s) 0 p = p :: s := rfl
@[simp] theorem setO_c1 (o p : Option Ob) (s : Sto) (n : Nat) : setO (o :: s) (n + 1) p = o :: setO s n p := rfl
@[simp] theorem setO_cl1 (o p : Option Ob) (s : Sto) : setO (o :: s) 1 p = o :: setO s 0 p := rfl
@[simp] theorem setO_cl2 (o p q : Option Ob) (s : Sto) : setO (o :: p :: s) 2 q = o :: p :: setO s 0 q := rfl
@[simp] theorem setO_len (s : Sto) (n : Nat) (o : Option Ob) : (setO s n o).length = s.length := by unfold setO; exact List.length_set
theorem getO_set (s : Sto) {n : Nat} (o : Option Ob) (h : n < s.length) : getO (setO s n o) n = o := by
  unfold getO setO; rw [List.getElem?_set_self h]; rfl
theorem getO_set_ne (s : Sto) {n m : Nat} (o : Option Ob) (h : n ≠ m) : getO (setO s n o) m = getO s m := by
  unfold getO setO; rw [List.getElem?_set_ne h]
theorem setO_set (s : Sto) (n : Nat) (o p : Option Ob) : setO (setO s n o) n p = setO s n p := by
  unfold setO; rw [List.set_set]
theorem setO_same {s : Sto} {n : Nat} {o : Ob} (h : getO s n = some o) : setO s n (some o) = s := by
  have hl := getO_lt h
  unfold setO
  apply List.ext_getElem?
  intro m
  by_cases e : n = m
  · subst e
    rw [List.getElem?_set_self hl]
    unfold getO at h
    rw [List.getElem?_eq_getElem hl] at h ⊢
    simp at h; rw [h]
  · rw [List.getElem?_set_ne e]
/-- all but what T names stands -/
structure Keep (s s' : Sto) (T : List Nat) : Prop where
  le : s.length ≤ s'.length
  eq : ∀ n, n < s.length → n ∉ T → getO s' n = getO s n
theorem Keep.refl (s : Sto) (T : List Nat) : Keep s s T := ⟨Nat.le_refl _, fun _ _ _ => rfl⟩
theorem Keep.tr {s s' s'' : Sto} {T T' : List Nat} (a : Keep s s' T) (b : Keep s' s'' T') (h : ∀ n ∈ T', n ∈ T ∨ s.length ≤ n) : Keep s s'' T :=
  ⟨Nat.le_trans a.le b.le, fun n hn ht => by rw [b.eq n (Nat.lt_of_lt_of_le hn a.le) fun m => (h n m).elim ht fun z => by omega]; exact a.eq n hn ht⟩
theorem Keep.trans {s s' s'' : Sto} {T : List Nat} (a : Keep s s' T) (b : Keep s' s'' T) : Keep s s'' T := a.tr b fun _ h => .inl h
theorem Keep.mono {s s' : Sto} {T T' : List Nat} (a : Keep s s' T) (h : ∀ n ∈ T, n ∈ T' ∨ s.length ≤ n) : Keep s s' T' := ⟨a.le, fun n hn ht => a.eq n hn fun m => (h n m).elim ht fun z => by omega⟩
theorem Keep.app (s t : Sto) (T : List Nat) : Keep s (s ++ t) T := ⟨by rw [List.length_append]; omega, fun n hn _ => getO_appl hn⟩
theorem Keep.set (s : Sto) (n : Nat) (o : Option Ob) (T : List Nat) (h : n ∈ T ∨ s.length ≤ n) : Keep s (setO s n o) T := ⟨by rw [setO_len]; exact Nat.le_refl _, fun m hm ht => getO_set_ne s o fun z => by subst z; rcases h with h | h; exact ht h; omega⟩
theorem Keep.get {s s' : Sto} {T : List Nat} (a : Keep s s' T) {n : Nat} {o : Ob} (h : getO s n = some o) (ht : n ∉ T) : getO s' n = some o := by rw [a.eq n (getO_lt h) ht]; exact h

@[simp] theorem asgG_name (i : Nat) (d : D) (env : En) : asgG (.name i) d env = some (env.set i (some d)) := by simp only [asgG]
@[simp] theorem asgG_tup (gs : Gs) (ds : List D) (env : En) : asgG (.tup gs) (.tup ds) env = asgGs gs ds env := by simp only [asgG]
@[simp] theorem asgGs_nil (env : En) : asgGs .nil [] env = some env := by simp only [asgGs]
@[simp] theorem asgGs_cons (g : G) (gs : Gs) (d : D) (ds : List D) (env : En) : asgGs (.cons g gs) (d :: ds) env = (asgG g d env).bind fun e1 => asgGs gs ds e1 := by simp only [asgGs]
@[simp] theorem isI_non_tuple (s : Sto) : isID s (.non) .tuple = some false := rfl
@[simp] theorem isI_non_list (s : Sto) : isID s (.non) .list = some false := rfl
@[simp] theorem isI_non_str (s : Sto) : isID s (.non) .str = some false := rfl
@[simp] theorem isI_non_int (s : Sto) : isID s (.non) .int = some false := rfl
@[simp] theorem isI_non_bool (s : Sto) : isID s (.non) .bool = some false := rfl
@[simp] theorem isI_bl_tuple (s : Sto) (b : Bool) : isID s (.bl b) .tuple = some false := rfl
@[simp] theorem isI_bl_list (s : Sto) (b : Bool) : isID s (.bl b) .list = some false := rfl
@[simp] theorem isI_bl_str (s : Sto) (b : Bool) : isID s (.bl b) .str = some false := rfl
@[simp] theorem isI_bl_int (s : Sto) (b : Bool) : isID s (.bl b) .int = some true := rfl
@[simp] theorem isI_bl_bool (s : Sto) (b : Bool) : isID s (.bl b) .bool = some true := rfl
@[simp] theorem isI_int_tuple (s : Sto) (i : Int) : isID s (.int i) .tuple = some false := rfl
@[simp] theorem isI_int_list (s : Sto) (i : Int) : isID s (.int i) .list = some false := rfl
@[simp] theorem isI_int_str (s : Sto) (i : Int) : isID s (.int i) .str = some false := rfl
@[simp] theorem isI_int_int (s : Sto) (i : Int) : isID s (.int i) .int = some true := rfl
@[simp] theorem isI_int_bool (s : Sto) (i : Int) : isID s (.int i) .bool = some false := rfl
@[simp] theorem isI_str_tuple (s : Sto) (x : Str) : isID s (.str x) .tuple = some false := rfl
@[simp] theorem isI_str_list (s : Sto) (x : Str) : isID s (.str x) .list = some false := rfl
@[simp] theorem isI_str_str (s : Sto) (x : Str) : isID s (.str x) .str = some true := rfl
@[simp] theorem isI_str_int (s : Sto) (x : Str) : isID s (.str x) .int = some false := rfl
@[simp] theorem isI_str_bool (s : Sto) (x : Str) : isID s (.str x) .bool = some false := rfl
@[simp] theorem isI_tup_tuple (s : Sto) (xs : List D) : isID s (.tup xs) .tuple = some true := rfl
@[simp] theorem isI_tup_list (s : Sto) (xs : List D) : isID s (.tup xs) .list = some false := rfl
@[simp] theorem isI_tup_str (s : Sto) (xs : List D) : isID s (.tup xs) .str = some false := rfl
@[simp] theorem isI_tup_int (s : Sto) (xs : List D) : isID s (.tup xs) .int = some false := rfl
@[simp] theorem isI_tup_bool (s : Sto) (xs : List D) : isID s (.tup xs) .bool = some false := rfl
@[simp] theorem isI_lst_tuple (s : Sto) (xs : List D) : isID s (.lst xs) .tuple = some false := rfl
@[simp] theorem isI_lst_list (s : Sto) (xs : List D) : isID s (.lst xs) .list = some true := rfl
@[simp] theorem isI_lst_str (s : Sto) (xs : List D) : isID s (.lst xs) .str = some false := rfl
@[simp] theorem isI_lst_int (s : Sto) (xs : List D) : isID s (.lst xs) .int = some false := rfl
@[simp] theorem isI_lst_bool (s : Sto) (xs : List D) : isID s (.lst xs) .bool = some false := rfl
theorem isI_obj {s : Sto} {n : Nat} {xs : List D} (h : getO s n = some (.lst xs)) (c : Ty) : isID s (.obj n) c = some (match c with | .list => true | _ => false) := by cases c <;> simp only [isID, h]
@[simp] theorem atD_tup (s : Sto) (xs : List D) (i : Int) : atD s (.tup xs) (.int i) = L2.atI xs i := rfl
@[simp] theorem atD_lst (s : Sto) (xs : List D) (i : Int) : atD s (.lst xs) (.int i) = L2.atI xs i := rfl
@[simp] theorem atD_scr (s : Sto) (xs : List Int) (i : Int) : atD s (.scr xs) (.int i) = (L2.atI xs i).map .int := rfl
theorem atD_obj {s : Sto} {n : Nat} {xs : List D} (h : getO s n = some (.lst xs)) (i : Int) : atD s (.obj n) (.int i) = L2.atI xs i := by simp only [atD, h]
@[simp] theorem seq_tup (s : Sto) (xs : List D) : seqSrc s (.tup xs) = some (.vals xs) := rfl
@[simp] theorem seq_lst (s : Sto) (xs : List D) : seqSrc s (.lst xs) = some (.vals xs) := rfl
@[simp] theorem seq_scr (s : Sto) (xs : List Int) : seqSrc s (.scr xs) = some (.vals (xs.map .int)) := rfl
theorem seq_obj {s : Sto} {n : Nat} {xs : List D} (h : getO s n = some (.lst xs)) : seqSrc s (.obj n) = some (.objl n xs.length) := by simp only [seqSrc, h]
@[simp] theorem len_tup (s : Sto) (xs : List D) : lenD s (.tup xs) = some xs.length := rfl
@[simp] theorem len_lst (s : Sto) (xs : List D) : lenD s (.lst xs) = some xs.length := rfl
@[simp] theorem len_scr (s : Sto) (xs : List Int) : lenD s (.scr xs) = some xs.length := rfl
theorem len_str {s : Sto} {x : Str} (h : x.length ≤ 1000000) : lenD s (.str x) = some x.length := if_pos h
theorem len_obj {s : Sto} {n : Nat} {xs : List D} (h : getO s n = some (.lst xs)) : lenD s (.obj n) = some xs.length := by simp only [lenD, h]
@[simp] theorem tru_non (s : Sto) : truD s .non = some false := rfl
@[simp] theorem tru_bl (s : Sto) (b : Bool) : truD s (.bl b) = some b := rfl
@[simp] theorem tru_int (s : Sto) (i : Int) : truD s (.int i) = some (i != 0) := rfl
@[simp] theorem tru_tup (s : Sto) (xs : List D) : truD s (.tup xs) = some (!xs.isEmpty) := rfl
@[simp] theorem tru_lst (s : Sto) (xs : List D) : truD s (.lst xs) = some (!xs.isEmpty) := rfl
theorem tru_obj {s : Sto} {n : Nat} {xs : List D} (h : getO s n = some (.lst xs)) : truD s (.obj n) = some (!xs.isEmpty) := by simp only [truD, h]
@[simp] theorem list_tup (s : Sto) (xs : List D) : listD s (.tup xs) = some xs := rfl
@[simp] theorem list_lst (s : Sto) (xs : List D) : listD s (.lst xs) = some xs := rfl
theorem list_obj {s : Sto} {n : Nat} {xs : List D} (h : getO s n = some (.lst xs)) : listD s (.obj n) = some xs := by simp only [listD, h]
@[simp] theorem b1_len (s : Sto) (d : D) : evB1 s .len d = (lenD s d).map fun (n : Nat) => D.int (n : Int) := rfl
@[simp] theorem b1_abs (s : Sto) (i : Int) : evB1 s .abs (.int i) = some (.int (if i < 0 then -i else i)) := rfl
@[simp] theorem b1_int (s : Sto) (i : Int) : evB1 s .int (.int i) = some (.int i) := rfl
@[simp] theorem b1_intb (s : Sto) (b : Bool) : evB1 s .int (.bl b) = some (.int (if b then 1 else 0)) := rfl
@[simp] theorem b1_booli (s : Sto) (i : Int) : evB1 s .bool (.int i) = some (.bl (i != 0)) := rfl
@[simp] theorem b1_boolb (s : Sto) (b : Bool) : evB1 s .bool (.bl b) = some (.bl b) := rfl
@[simp] theorem b1_sum (s : Sto) (xs : List D) : evB1 s .sum (.lst xs) = (sumD xs).map .int := rfl
@[simp] theorem b1_all (s : Sto) (xs : List D) : evB1 s .all (.lst xs) = (blsD xs).map fun bs => .bl (bs.all id) := rfl
@[simp] theorem b1_any (s : Sto) (xs : List D) : evB1 s .any (.lst xs) = (blsD xs).map fun bs => .bl (bs.any id) := rfl
@[simp] theorem b1_tup (s : Sto) (d : D) : evB1 s .tup d = (listD s d).map .tup := rfl
@[simp] theorem b1_lst (s : Sto) (d : D) : evB1 s .lst d = (listD s d).map .lst := rfl
theorem look_K {s : Sto} {n : Nat} {kvs : List (L2.Key × D)} (h : getO s n = some (.dK kvs)) (x : Str) : dLook s (.obj n) (.str x) = some (lookD kvs (.inr x)) := by simp only [dLook, h]; rfl
theorem look_Ki {s : Sto} {n : Nat} {kvs : List (L2.Key × D)} (h : getO s n = some (.dK kvs)) (x : Int) : dLook s (.obj n) (.int x) = some (lookD kvs (.inl x)) := by simp only [dLook, h]; rfl
@[simp] theorem isN_non : evCmp .isN .non .non = some true := rfl
@[simp] theorem isN_tup (xs : List D) : evCmp .isN (.tup xs) .non = some false := rfl
@[simp] theorem isN_lst (xs : List D) : evCmp .isN (.lst xs) .non = some false := rfl
@[simp] theorem isN_int (i : Int) : evCmp .isN (.int i) .non = some false := rfl
@[simp] theorem isN_str (x : Str) : evCmp .isN (.str x) .non = some false := rfl
@[simp] theorem isN_bl (x : Bool) : evCmp .isN (.bl x) .non = some false := rfl
@[simp] theorem isN_obj (x : Nat) : evCmp .isN (.obj x) .non = some false := rfl
@[simp] theorem notN_non : evCmp .notN .non .non = some false := rfl
@[simp] theorem notN_tup (xs : List D) : evCmp .notN (.tup xs) .non = some true := rfl
@[simp] theorem notN_lst (xs : List D) : evCmp .notN (.lst xs) .non = some true := rfl
@[simp] theorem notN_int (i : Int) : evCmp .notN (.int i) .non = some true := rfl
@[simp] theorem notN_str (x : Str) : evCmp .notN (.str x) .non = some true := rfl
@[simp] theorem notN_bl (x : Bool) : evCmp .notN (.bl x) .non = some true := rfl
@[simp] theorem notN_obj (x : Nat) : evCmp .notN (.obj x) .non = some true := rfl
@[simp] theorem slc_tup (xs : List D) (lo hi : Option Int) : slcD (.tup xs) lo hi = some (.tup (cutD xs lo hi)) := rfl
@[simp] theorem slc_lst (xs : List D) (lo hi : Option Int) : slcD (.lst xs) lo hi = some (.lst (cutD xs lo hi)) := rfl
@[simp] theorem slc_scr (xs : List Int) (lo hi : Option Int) : slcD (.scr xs) lo hi = some (.lst ((cutD xs lo hi).map .int)) := rfl
@[simp] theorem szl_val : ZL = 1000000 := rfl
/-! ### numbers -/
theorem mulI (i j : Int) (h1 : -(2 ^ 64) < j) (h2 : j < 2 ^ 64) : evBin .mul (.int i) (.int j) = some (.int (i * j)) := if_pos (.inr ⟨h1, h2⟩)
theorem divI (i j : Int) (h1 : j ≠ 0) (h2 : j.natAbs < 1073741824) : evBin .fdiv (.int i) (.int j) = some (.int (i.fdiv j)) := if_pos ⟨h1, h2⟩
theorem modI (i j : Int) (h1 : j ≠ 0) : evBin .mod (.int i) (.int j) = some (.int (i.fmod j)) := if_pos h1
theorem shlI (i j : Int) (h : 0 ≤ j ∧ j ≤ 1000000 ∧ i.natAbs < 2 ^ 64) : evBin .shl (.int i) (.int j) = some (.int (i * 2 ^ j.toNat)) := if_pos h
theorem powI (i j : Int) (h : 0 ≤ j ∧ j ≤ 1000000 ∧ i.natAbs < 2 ^ 64) : evBin .pow (.int i) (.int j) = some (.int (i ^ j.toNat)) := if_pos h
theorem fm_nat (x : Int) {n : Nat} (h : 0 < n) : ∃ r : Nat, x.fmod n = r ∧ r < n := by
  have h1 := Int.fmod_nonneg_of_pos x (show (0 : Int) < n by omega)
  have h2 := Int.fmod_lt_of_pos x (show (0 : Int) < n by omega)
  exact ⟨(x.fmod n).toNat, by omega, by omega⟩
theorem fm_of_nat (m n : Nat) : (m : Int).fmod n = ((m % n : Nat) : Int) := by
  rw [Int.fmod_eq_emod_of_nonneg _ (by omega)]; rfl
theorem modN (m : Nat) {n : Nat} (h : 0 < n) : evBin .mod (.int m) (.int n) = some (.int ((m % n : Nat) : Int)) := by
  rw [modI _ _ (by omega), fm_of_nat]
theorem addN (m n : Nat) : evBin .add (.int m) (.int n) = some (.int ((m + n : Nat) : Int)) := by
  rw [addI]; rfl
/-- range -/
theorem rg_nat (n : Nat) : rgD (n : Int) = (List.range n).map fun (i : Nat) => D.int (i : Int) := by unfold rgD; rw [Int.toNat_natCast]
theorem addT (a b : List D) (h : a.length + b.length ≤ 1000000) : evBin .add (.tup a) (.tup b) = some (.tup (a ++ b)) := if_pos h
theorem addL (a b : List D) (h : a.length + b.length ≤ 1000000) : evBin .add (.lst a) (.lst b) = some (.lst (a ++ b)) := if_pos h
theorem addS (a b : Str) (h : a.length + b.length ≤ 1000000) : evBin .add (.str a) (.str b) = some (.str (a ++ b)) := if_pos h
@[simp] theorem eqI' (i j : Int) : evCmp .eq (.int i) (.int j) = some (decide (i = j)) := by
  rw [eqI]; congr 1
@[simp] theorem neI' (i j : Int) : evCmp .ne (.int i) (.int j) = some (decide (i ≠ j)) := by
  show (scalEq (.int i) (.int j)).map (!·) = _
  have : scalEq (.int i) (.int j) = some (i == j) := rfl
  rw [this, Option.map_some]
  congr 1
  by_cases h : i = j
  · simp [h]
  · simp [h]
@[simp] theorem eqS' (i j : Str) : evCmp .eq (.str i) (.str j) = some (decide (i = j)) := by
  show some (i == j) = _
  congr 1
@[simp] theorem neS' (i j : Str) : evCmp .ne (.str i) (.str j) = some (decide (i ≠ j)) := by
  show some (!(i == j)) = _
  congr 1
  by_cases h : i = j
  · simp [h]
  · simp [h]
@[simp] theorem neB' (i j : Bool) : evCmp .ne (.bl i) (.bl j) = some (!(i == j)) := rfl
@[simp] theorem atL_m1 {α : Type} (l : List α) : L2.atI l (-1 : Int) = l[l.length - 1]? := by
  unfold L2.atI L2.ixN
  rw [if_neg (by omega)]
  by_cases h : l.length = 0
  · have : l = [] := List.length_eq_zero_iff.mp h
    subst this; rfl
  · rw [if_pos (by omega)]
    show l[((-1 : Int) + l.length).toNat]? = _
    congr 1
    omega
@[simp] theorem nc_inj (m n : Nat) : ((m : Int) = (n : Int)) ↔ m = n := by omega
@[simp] theorem nc_lt (m n : Nat) : ((m : Int) < (n : Int)) ↔ m < n := by omega
@[simp] theorem nc_le (m n : Nat) : ((m : Int) ≤ (n : Int)) ↔ m ≤ n := by omega
/-! ### texts -/
@[simp] theorem of_inj (a b : String) : (Str.ofString a = Str.ofString b) ↔ a = b := by
  constructor
  · intro h
    rw [Str.ofString_eq_toList, Str.ofString_eq_toList] at h
    have h2 : (a.toList.map Char.toNat) = (b.toList.map Char.toNat) := by
      have := congrArg (fun s : Str => s.cps.toList) h
      simpa using this
    have h3 : ∀ l m : List Char, l.map Char.toNat = m.map Char.toNat → l = m := by
      intro l
      induction l with
      | nil => intro m h; cases m with
        | nil => rfl
        | cons _ _ => simp at h
      | cons x l ih => intro m h; cases m with
        | nil => simp at h
        | cons y m =>
          simp only [List.map_cons, List.cons.injEq] at h
          rw [ih m h.2, Char.toNat_inj.mp h.1]
    exact String.toList_inj.mp (h3 _ _ h2)
  · intro h; rw [h]
@[simp] theorem of_beq (a b : String) : (Str.ofString a == Str.ofString b) = (a == b) := by rw [Bool.eq_iff_iff]; simp
/-! ### slices -/
theorem slc_none {α : Type} (xs : List α) : cutD xs none none = xs := by
  unfold cutD; simp [HT.sIx]
theorem sIx_nat (n d i : Nat) (h : i ≤ n) : HT.sIx n d (some (i : Int)) = i := by
  rw [HT.sIx_nat]; omega
theorem slc_from {α : Type} (xs : List α) (i : Nat) (h : i ≤ xs.length) : cutD xs (some (i : Int)) none = xs.drop i := by
  unfold cutD
  rw [sIx_nat _ _ _ h, HT.sIx_none]
  exact List.take_of_length_le (by rw [List.length_drop]; omega)
theorem slc_to {α : Type} (xs : List α) (i : Nat) (h : i ≤ xs.length) : cutD xs none (some (i : Int)) = xs.take i := by
  unfold cutD
  rw [sIx_nat _ _ _ h, HT.sIx_none]
  simp
theorem slc_ft {α : Type} (xs : List α) (i j : Nat) (h : i ≤ xs.length) (h2 : j ≤ xs.length) : cutD xs (some (i : Int)) (some (j : Int)) = (xs.drop i).take (j - i) := by
  unfold cutD
  rw [sIx_nat _ _ _ h, sIx_nat _ _ _ h2]
end Mx

/-! Mx, part T: what the laws k90 to k99 have alike: the script's numbers drawn from. -/
namespace Mx
open PySem Fw

/-! ### the state that is drawn from: objects 0, 1, 2 -/
structure Lp where
  g : List Int
  m : Int
  t : Int
  w : List (L2.Key × D)
def lampK (m t : Int) : List (L2.Key × D) := [(.inr "great", .obj 0), (.inr "mixed", .int m), (.inr "turns", .int t), (.inr "wonts", .obj 1)]
def Lp.sto (L : Lp) (rest : Sto) : Sto := some (.lst (L.g.map .int)) :: some (.dK L.w) :: some (.dK (lampK L.m L.t)) :: rest
structure Lp.ok (L : Lp) (pl : List Str) : Prop where
  gl : L.g.length ≤ 1000
  nd : (L.w.map (·.1)).Nodup
  sb : ∀ kv ∈ L.w, kv.1 ∈ pl.map (Sum.inr : Str → L2.Key)
  iv : ∀ kv ∈ L.w, ∃ v : Int, kv.2 = .int v
theorem nodup_len {α : Type} [DecidableEq α] : ∀ (l m : List α), l.Nodup → (∀ x ∈ l, x ∈ m) → l.length ≤ m.length
  | [], m, _, _ => Nat.zero_le _
  | x :: l, m, hn, hs => by
    obtain ⟨h1, h2⟩ := List.nodup_cons.mp hn
    have hx := hs x (List.mem_cons_self ..)
    have := nodup_len l (m.erase x) h2 fun y hy => by
      have hne : y ≠ x := fun e => h1 (e ▸ hy)
      exact (List.mem_erase_of_ne hne).mpr (hs y (List.mem_cons_of_mem _ hy))
    rw [List.length_erase_of_mem hx] at this
    have hp := List.length_pos_of_mem hx
    rw [List.length_cons]; omega
theorem Lp.wl {L : Lp} {pl : List Str} (h : L.ok pl) : L.w.length ≤ pl.length := by
  have := nodup_len (L.w.map (·.1)) (pl.map (Sum.inr : Str → L2.Key)) h.nd fun x hx => by
    obtain ⟨kv, hk, rfl⟩ := List.mem_map.mp hx
    exact h.sb kv hk
  rw [List.length_map, List.length_map] at this
  exact this
@[simp] theorem lk_great (m t : Int) : lookD (lampK m t) (.inr "great") = some (.obj 0) := rfl
@[simp] theorem lk_mixed (m t : Int) : lookD (lampK m t) (.inr "mixed") = some (.int m) := rfl
@[simp] theorem lk_turns (m t : Int) : lookD (lampK m t) (.inr "turns") = some (.int t) := rfl
@[simp] theorem lk_wonts (m t : Int) : lookD (lampK m t) (.inr "wonts") = some (.obj 1) := rfl
@[simp] theorem pt_mixed (m t x : Int) : putD (lampK m t) (.inr "mixed") (.int x) = lampK x t := rfl
@[simp] theorem pt_turns (m t x : Int) : putD (lampK m t) (.inr "turns") (.int x) = lampK m x := rfl
@[simp] theorem len_lampK (m t : Int) : (lampK m t).length = 4 := rfl
theorem look_none {w : List (L2.Key × D)} {k : L2.Key} (h : lookD w k = none) (d : D) : putD w k d = w ++ [(k, d)] ∧ k ∉ w.map (·.1) ∧ lookD (w ++ [(k, d)]) k = some d := by
  simp only [lookD, Option.map_eq_none_iff, List.find?_eq_none, decide_eq_true_eq] at h
  refine ⟨?_, ?_, ?_⟩
  · unfold putD
    rw [if_neg]
    simp only [List.any_eq_true, decide_eq_true_eq]
    rintro ⟨x, hx, e⟩
    exact h x hx e
  · rintro hm
    obtain ⟨x, hx, e⟩ := List.mem_map.mp hm
    exact h x hx e
  · unfold lookD
    rw [List.find?_append, List.find?_eq_none.mpr (by simpa using h)]
    simp
theorem look_some {w : List (L2.Key × D)} {k : L2.Key} {d : D} (h : lookD w k = some d) : ∃ kv ∈ w, kv.2 = d := by
  simp only [lookD] at h
  obtain ⟨kv, h1, h2⟩ := Option.map_eq_some_iff.mp h
  exact ⟨kv, List.mem_of_find?_eq_some h1, h2⟩
/-! ### drawing -/
section
variable (a b c m q : Int)
def takeT : Ss := .cons (.asg (.name 4) (.dget (.dget (.var 0) (.str "wonts")) (.var 1))) (.cons (.ife (.val (.cmp .lt (.bin .mod (.b1 .int (.var 4)) (.int 13)) (.int 3))) (.cons (.ret (.idx (.tup (Es.of [(.int 0), (.bin .sub (.var 2) (.int 1)), (.bin .mod (.b1 .int (.bin .fdiv (.var 4) (.int 13))) (.var 2))])) (.bin .mod (.b1 .int (.var 4)) (.int 13)))) (.nil)) (.nil)) (.cons (.ret (.bin .mod (.b1 .int (.bin .fdiv (.dget (.var 0) (.str "mixed")) (.int q))) (.var 2))) (.nil)))
def takeB : Ss := .cons (.ife (.val (.cmp .lt (.var 2) (.int 2))) (.cons (.ret (.int 0)) (.nil)) (.nil)) (.cons (.ife (.val (.cmp .gt (.b1 .len (.dget (.var 0) (.str "great"))) (.int 0))) (.cons (.asg (.name 3) (.pop (.dget (.var 0) (.str "great")))) (.cons (.ife (.val (.cmp .ge (.var 3) (.var 2))) (.cons (.expr (.app (.dget (.var 0) (.str "great")) (.bin .fdiv (.var 3) (.var 2)))) (.nil)) (.nil)) (.cons (.ret (.bin .mod (.b1 .int (.var 3)) (.var 2))) (.nil)))) (.nil)) (.cons (.dput (.var 0) (.str "turns") (.bin .add (.dget (.var 0) (.str "turns")) (.int 1))) (.cons (.dput (.var 0) (.str "mixed") (.bin .mod (.b1 .int (.bin .add (.bin .add (.bin .mul (.dget (.var 0) (.str "mixed")) (.int a)) (.bin .mul (.dget (.var 0) (.str "turns")) (.int b))) (.int c))) (.int m))) (.cons (.ife (.val (.dnin (.var 1) (.dget (.var 0) (.str "wonts")))) (.cons (.dput (.dget (.var 0) (.str "wonts")) (.var 1) (.bin .fdiv (.dget (.var 0) (.str "mixed")) (.int q))) (.cons (.dput (.var 0) (.str "mixed") (.bin .mod (.b1 .int (.bin .add (.bin .mul (.dget (.var 0) (.str "mixed")) (.int a)) (.int b))) (.int m))) (.nil))) (.nil)) (takeT q)))))
end
/-- numbers that do -/
structure NumsOk (a b m q : Int) : Prop where
  a1 : -(2 ^ 64) < a ∧ a < 2 ^ 64
  b1 : -(2 ^ 64) < b ∧ b < 2 ^ 64
  m0 : m ≠ 0
  q0 : q ≠ 0
  q1 : q.natAbs < 1073741824
/-- i is the def that draws -/
structure Take (P : Pr) (i : Nat) (pl : List Str) : Prop where
  df : ∃ a b c m q, P.df i = some ⟨3, 5, takeB a b c m q⟩ ∧ NumsOk a b m q
  pl : pl.length ≤ 1000
theorem take_tail (q v m : Int) (hq : q ≠ 0) (hq1 : q.natAbs < 1073741824) {many : Nat} (hpos : 0 < many) : ∃ r : Nat, (∀ (C : Cc) (pl : Str) (s : Sto) (x : Option D) (w : List (L2.Key × D)) (t : Int), getO s 2 = some (.dK (lampK m t)) → getO s 1 = some (.dK w) → lookD w (.inr pl) = some (.int v) →
    exSs C (takeT q) [some (.obj 2), some (.str pl), some (.int many), x, none] s = some (.rt (.int r) s)) ∧ r < many := by
  obtain ⟨a, ha, ha2⟩ := fm_nat v (show 0 < 13 by decide)
  obtain ⟨b, hb, hb2⟩ := fm_nat (v.fdiv 13) hpos
  obtain ⟨c, hc, hc2⟩ := fm_nat (m.fdiv q) hpos
  have e1 := modI v 13 (by decide)
  have e2 := divI v 13 (by decide) (by decide)
  have e3 := modI (v.fdiv 13) many (by omega)
  have e4 := divI m q hq hq1
  have e5 := modI (m.fdiv q) many (by omega)
  rw [hb] at e3
  rw [hc] at e5
  have ha' : v.fmod 13 = (a : Int) := ha
  rw [ha'] at e1
  by_cases h3 : a < 3
  · have h3' : (a : Int) < 3 := by omega
    refine ⟨if a = 0 then 0 else if a = 1 then many - 1 else b, fun C pl s x w t g1 g2 g3 => ?_, by split; omega; split <;> omega⟩
    have hmn : ((many - 1 : Nat) : Int) = (many : Int) - 1 := by omega
    have e6 : [D.int 0, D.int ((many : Int) - 1), D.int b][a]? = some (.int ((if a = 0 then 0 else if a = 1 then many - 1 else b : Nat) : Int)) := by
      rcases (show a = 0 ∨ a = 1 ∨ a = 2 by omega) with rfl | rfl | rfl
      · simp
      · simp [hmn]
      · simp
    simp [takeT, Es.of, look_K g1, look_K g2, g3, e1, e2, e3, h3', e6, ZL]
  · have h3' : ¬ (a : Int) < 3 := by omega
    refine ⟨c, fun C pl s x w t g1 g2 g3 => ?_, hc2⟩
    simp [takeT, Es.of, look_K g1, look_K g2, g3, e1, h3', e4, e5, ZL]
theorem take_sto {P : Pr} {wf i : Nat} {pls : List Str} (T : Take P i pls) {k : Nat} (hk : 1 ≤ k) {L : Lp} (hL : L.ok pls) (rest : Sto) {pl : Str} (hp : pl ∈ pls) {many : Nat} (hm : many ≤ 1000) :
    ∃ (r : Nat) (L' : Lp), run P wf k i [.obj 2, .str pl, .int many] (L.sto rest) = some (.int r, L'.sto rest) ∧ L'.ok pls ∧ r < max many 1 := by
  obtain ⟨k, rfl⟩ := Nat.exists_eq_add_of_le' hk
  obtain ⟨⟨A, B, cc, M, q, hdf, N⟩, hpl⟩ := T
  have go' := fun s => go (P := P) (wf := wf) (k := k) (i := i) (f := ⟨3, 5, takeB A B cc M q⟩) (ds := [.obj 2, .str pl, .int many]) (s := s) hdf rfl
  have hwl := Lp.wl hL
  by_cases h2 : many < 2
  · refine ⟨0, L, ?_, hL, by omega⟩
    rw [go']
    have : (many : Int) < 2 := by omega
    simp [takeB, this]
  have hn2 : ¬ (many : Int) < 2 := by omega
  have hpos : 0 < many := by omega
  rcases List.eq_nil_or_concat L.g with hg | ⟨g', x, hg⟩
  · -- no great ones
    obtain ⟨t1, ht1⟩ : ∃ t1, t1 = L.t + 1 := ⟨_, rfl⟩
    obtain ⟨m1, hm1⟩ : ∃ m1, m1 = (L.m * A + t1 * B + cc).fmod M := ⟨_, rfl⟩
    have e1 := modI (L.m * A + t1 * B + cc) M N.m0
    rw [← hm1] at e1
    have q1 := mulI L.m A N.a1.1 N.a1.2
    have q2 := mulI t1 B N.b1.1 N.b1.2
    cases hlk : lookD L.w (.inr pl) with
    | some d =>
      obtain ⟨kv, hkv, rfl⟩ := look_some hlk
      obtain ⟨v, hv⟩ := hL.iv kv hkv
      rw [hv] at hlk
      obtain ⟨r, hr, hr2⟩ := take_tail q v m1 N.q0 N.q1 hpos
      refine ⟨r, { L with m := m1, t := t1 }, ?_, ⟨hL.gl, hL.nd, hL.sb, hL.iv⟩, by omega⟩
      have hr' := fun x => hr (CC P wf k (L.sto rest).length) pl (({ L with m := m1, t := t1 } : Lp).sto rest) x L.w t1 (by simp [Lp.sto]) (by simp [Lp.sto]) hlk
      rw [go']
      simp only [Lp.sto, List.length_cons, hg, List.map_nil] at hr'
      simp [takeB, Es.of, hn2, Lp.sto, dLook, toKey, lenD, hg, ← ht1, q1, q2, e1, hlk, ZL, hr']
    | none =>
      obtain ⟨p1, p2, p3⟩ := look_none hlk (.int (m1.fdiv q))
      obtain ⟨m2, hm2⟩ : ∃ m2, m2 = (m1 * A + B).fmod M := ⟨_, rfl⟩
      have e2 := modI (m1 * A + B) M N.m0
      rw [← hm2] at e2
      have q3 := mulI m1 A N.a1.1 N.a1.2
      have q4 := divI m1 q N.q0 N.q1
      obtain ⟨r, hr, hr2⟩ := take_tail q (m1.fdiv q) m2 N.q0 N.q1 hpos
      refine ⟨r, { L with m := m2, t := t1, w := L.w ++ [(.inr pl, .int (m1.fdiv q))] }, ?_, ⟨hL.gl, ?_, ?_, ?_⟩, by omega⟩
      · have hr' := fun x => hr (CC P wf k (L.sto rest).length) pl (({ L with m := m2, t := t1, w := L.w ++ [(.inr pl, .int (m1.fdiv q))] } : Lp).sto rest) x _ t1 (by simp [Lp.sto]) (by simp [Lp.sto]) p3
        have hw : L.w.length < 1000000 := by omega
        rw [go']
        simp only [Lp.sto, List.length_cons, hg, List.map_nil] at hr'
        simp [takeB, Es.of, hn2, Lp.sto, dLook, toKey, lenD, hg, ← ht1, q1, q2, q3, q4, e1, e2, hlk, ZL, hr', hw, p1]
      · rw [List.map_append]
        refine List.nodup_append.mpr ⟨hL.nd, by simp, ?_⟩
        intro y hy z hz e
        simp at hz
        subst hz; subst e
        exact p2 hy
      · intro kv hkv
        rcases List.mem_append.mp hkv with h | h
        · exact hL.sb kv h
        · simp at h; subst h
          exact List.mem_map_of_mem hp
      · intro kv hkv
        rcases List.mem_append.mp hkv with h | h
        · exact hL.iv kv h
        · simp at h; subst h
          exact ⟨_, rfl⟩
  · obtain ⟨r, hr, hr2⟩ := fm_nat x hpos
    have e1 := modI x many (by omega)
    rw [hr] at e1
    have e2 := divI x many (by omega) (by omega)
    have hgl : (g' ++ [x]).length ≤ 1000 := by have := hL.gl; rw [hg, List.concat_eq_append] at this; exact this
    have hg1 : g'.length < 1000000 := by simp at hgl; omega
    by_cases hx : (many : Int) ≤ x
    · refine ⟨r, { L with g := g' ++ [x.fdiv many] }, ?_, ⟨by simpa using hgl, hL.nd, hL.sb, hL.iv⟩, by omega⟩
      rw [go']
      simp [takeB, Es.of, hn2, Lp.sto, dLook, toKey, lenD, hg, List.concat_eq_append, e1, e2, hx, hg1, ZL]
    · refine ⟨r, { L with g := g' }, ?_, ⟨by simp at hgl; show g'.length ≤ 1000; omega, hL.nd, hL.sb, hL.iv⟩, by omega⟩
      rw [go']
      simp [takeB, Es.of, hn2, Lp.sto, dLook, toKey, lenD, hg, List.concat_eq_append, e1, hx, ZL]
/-- the state stands -/
def Cl (pls : List Str) (s : Sto) : Prop := ∃ (L : Lp) (rest : Sto), L.ok pls ∧ s = L.sto rest
theorem Lp.keep (L L' : Lp) (rest : Sto) : Keep (L.sto rest) (L'.sto rest) [0, 1, 2] := ⟨Nat.le_refl _, fun n _ ht => by
  match n, ht with
  | 0, h => simp at h
  | 1, h => simp at h
  | 2, h => simp at h
  | n + 3, _ => rfl⟩
/-- a number is drawn -/
structure Took (pls : List Str) (s s' : Sto) : Prop where
  cl : Cl pls s'
  kp : Keep s s' [0, 1, 2]
  len : s'.length = s.length
theorem take_ok {P : Pr} {wf i : Nat} {pls : List Str} (T : Take P i pls) {k : Nat} (hk : 1 ≤ k) {s : Sto} (h : Cl pls s) {pl : Str} (hp : pl ∈ pls) (many : Nat) (hm : many ≤ 1000) (mi : Int := many) (e : mi = many := by rfl) :
    ∃ (r : Nat) (s' : Sto), run P wf k i [.obj 2, .str pl, .int mi] s = some (.int r, s') ∧ Took pls s s' ∧ r < max many 1 := by
  subst e
  obtain ⟨L, rest, hL, rfl⟩ := h
  obtain ⟨r, L', h1, h2, h3⟩ := take_sto (wf := wf) T hk hL rest hp hm
  exact ⟨r, _, h1, ⟨⟨L', rest, h2, rfl⟩, L.keep L' rest, rfl⟩, h3⟩
theorem Cl.len {pls : List Str} {s : Sto} (h : Cl pls s) : 3 ≤ s.length := by
  obtain ⟨L, rest, hL, rfl⟩ := h
  simp only [Lp.sto, List.length_cons]; omega
theorem n012 {n : Nat} (h : 3 ≤ n) : n ∉ [0, 1, 2] := fun m => by
  simp only [List.mem_cons, List.not_mem_nil, or_false] at m
  omega
theorem Cl.app {pls : List Str} {s : Sto} (h : Cl pls s) (t : Sto) : Cl pls (s ++ t) := by
  obtain ⟨L, rest, hL, rfl⟩ := h
  exact ⟨L, rest ++ t, hL, rfl⟩
theorem Cl.set {pls : List Str} {s : Sto} (h : Cl pls s) {n : Nat} (hn : 3 ≤ n) (o : Option Ob) : Cl pls (setO s n o) := by
  obtain ⟨L, rest, hL, rfl⟩ := h
  obtain ⟨n, rfl⟩ := Nat.exists_eq_add_of_le' hn
  exact ⟨L, setO rest n o, hL, rfl⟩
theorem Cl.keep {pls : List Str} {s s' : Sto} (h : Cl pls s) {T : List Nat} (k : Keep s s' T) (h0 : 0 ∉ T) (h1 : 1 ∉ T) (h2 : 2 ∉ T) : Cl pls s' := by
  obtain ⟨L, rest, hL, rfl⟩ := h
  have a0 := k.get (o := .lst (L.g.map .int)) (n := 0) rfl h0
  have a1 := k.get (o := .dK L.w) (n := 1) rfl h1
  have a2 := k.get (o := .dK (lampK L.m L.t)) (n := 2) rfl h2
  match s', a0, a1, a2 with
  | [], a0, _, _ => cases a0
  | [_], _, a1, _ => cases a1
  | [_, _], _, _, a2 => cases a2
  | x :: y :: z :: r, a0, a1, a2 =>
    have e0 : x = _ := a0
    have e1 : y = _ := a1
    have e2 : z = _ := a2
    subst e0 e1 e2
    exact ⟨L, r, hL, rfl⟩
/-! ### the beginning -/
def clothB1 (mul modS kk : Int) (M : Int) (e10 : Int) : Ss := .cons (.asg (.name 4) (.bin .mod (.b1 .abs (.b1 .int (.var 3))) (.bin .shl (.int 1) (.int 2000)))) (.cons (.asg (.name 2) (.bin .mod (.b1 .int (.bin .add (.bin .add (.bin .add (.bin .mul (.var 2) (.int mul)) (.bin .mod (.var 4) (.int modS))) (.bin .mul (.int kk) (.b1 .int (.cmp .lt (.var 3) (.int 0))))) (.int 1))) (.int M))) (.cons (.ife (.val (.cmp .ge (.var 4) (.bin .pow (.int 10) (.int e10)))) (.cons (.expr (.app (.var 1) (.var 4))) (.nil)) (.nil)) (.nil)))
def clothB (m0 cut mul modS kk M e10 : Int) : Ss := .cons (.par 1 2 (.newL .nil) (.int m0)) (.cons (.for_ (.name 3) (.seq (.slc (.var 0) .none (.some (.int cut)))) (clothB1 mul modS kk M e10)) (.cons (.ret (.disp ["great", "mixed", "turns", "wonts"] (Es.of [(.var 1), (.var 2), (.int 0), .newK]))) (.nil)))
theorem cloth_ok {P : Pr} {wf i : Nat} {m0 cut mul modS kk M e10 : Int} (hi : P.df i = some ⟨1, 5, clothB m0 cut mul modS kk M e10⟩) (h1 : -(2 ^ 64) < mul ∧ mul < 2 ^ 64) (h2 : modS ≠ 0) (h3 : M ≠ 0) (h4 : 0 ≤ e10 ∧ e10 ≤ 1000) {k : Nat} (hk : 1 ≤ k) (pls : List Str) (ns : List Int) (hn : ns.length ≤ 63) :
    ∃ s', run P wf k i [.scr ns] [] = some (.obj 2, s') ∧ Cl pls s' ∧ s'.length = 3 := by
  obtain ⟨k, rfl⟩ := Nat.exists_eq_add_of_le' hk
  obtain ⟨B, hB, hB0⟩ : ∃ B : Int, evBin .shl (.int 1) (.int 2000) = some (.int B) ∧ B ≠ 0 := ⟨1 * 2 ^ (2000 : Int).toNat, shlI _ _ ⟨by decide, by decide, by decide⟩, Int.ne_of_gt (Int.mul_pos (by decide) (Int.pow_pos (by decide)))⟩
  obtain ⟨Pw, hP⟩ : ∃ Pw : Int, evBin .pow (.int 10) (.int e10) = some (.int Pw) := ⟨10 ^ e10.toNat, powI _ _ ⟨h4.1, by omega, by decide⟩⟩
  have hcl : (cutD ns none (some cut)).length ≤ 63 := by
    unfold cutD
    rw [List.length_take, List.length_drop]
    omega
  obtain ⟨env', s', hr, g, m, x3, x4, rfl, rfl, hgl⟩ := forE_inv (C := CC P wf k 0) (g := .name 3) (b := clothB1 mul modS kk M e10) (env := [some (.scr ns), some (.obj 0), some (.int m0), none, none]) (s := [some (.lst [])]) D.int
    (fun pre env s => ∃ g m x3 x4, env = [some (.scr ns), some (.obj 0), some (.int m), x3, x4] ∧ s = [some (.lst (List.map D.int g))] ∧ g.length ≤ pre.length) (cutD ns none (some cut)) ⟨[], _, none, none, rfl, rfl, by simp⟩ (by
      rintro pre y post _ _ hl ⟨g, m, x3, x4, rfl, rfl, hgl⟩
      have hpl := congrArg List.length hl
      simp only [List.length_append, List.length_cons] at hpl
      obtain ⟨sz, hsz⟩ : ∃ sz, sz = (if y < 0 then -y else y).fmod B := ⟨_, rfl⟩
      have e1 := modI (if y < 0 then -y else y) B hB0
      rw [← hsz] at e1
      have e2 := mulI m mul h1.1 h1.2
      have e3 := modI sz modS h2
      have e4 : evBin .mul (.int kk) (.int (if y < 0 then 1 else 0)) = some (.int (kk * (if y < 0 then 1 else 0))) := mulI _ _ (by split <;> decide) (by split <;> decide)
      have e5 := fun z => modI z M h3
      have h4 : g.length < 1000000 := by omega
      by_cases hbig : Pw ≤ sz
      · refine ⟨_, [some (.scr ns), some (.obj 0), some (.int ((m * mul + sz.fmod modS + kk * (if y < 0 then 1 else 0) + 1).fmod M)), some (.int y), some (.int sz)], [some (.lst ((g ++ [sz]).map D.int))], rfl, ?_, g ++ [sz], _, _, _, rfl, rfl, by simp; omega⟩
        simp [clothB1, hB, hP, e1, e2, e3, e4, e5, hbig, h4, ZL]
      · refine ⟨_, [some (.scr ns), some (.obj 0), some (.int ((m * mul + sz.fmod modS + kk * (if y < 0 then 1 else 0) + 1).fmod M)), some (.int y), some (.int sz)], [some (.lst (g.map D.int))], rfl, ?_, g, _, _, _, rfl, rfl, by simp; omega⟩
        simp [clothB1, hB, hP, e1, e2, e3, e4, e5, hbig, h4, ZL])
  refine ⟨_, ?_, ⟨⟨g, m, 0, []⟩, [], ⟨by show g.length ≤ 1000; omega, by simp, by simp, by simp⟩, rfl⟩, rfl⟩
  rw [go hi rfl]
  have e0 : slcD (.scr ns) none (some cut) = some (.lst ((cutD ns none (some cut)).map .int)) := rfl
  simp [clothB, Es.of, e0, hr, Lp.sto, ZL]
  rfl
end Mx

/-! Mx, part S: the laws' own comparison, by a pile: a thing is as itself. -/
namespace Mx
open PySem Fw
mutual
def plain : D → Bool
  | .non => true
  | .bl _ => true
  | .int _ => true
  | .str _ => true
  | .tup xs => plainL xs
  | .lst xs => plainL xs
  | .scr _ => false
  | .obj _ => false
def plainL : List D → Bool
  | [] => true
  | d :: r => plain d && plainL r
end
mutual
def sz : D → Nat
  | .tup xs => szL xs + 1
  | .lst xs => szL xs + 1
  | .non => 1
  | .bl _ => 1
  | .int _ => 1
  | .str _ => 1
  | .scr _ => 1
  | .obj _ => 1
def szL : List D → Nat
  | [] => 0
  | d :: r => sz d + szL r
end
theorem szL_app : ∀ a b : List D, szL (a ++ b) = szL a + szL b
  | [], b => by simp [szL]
  | d :: a, b => by simp only [List.cons_append, szL, szL_app a b]; omega
theorem plainL_app : ∀ a b : List D, plainL (a ++ b) = (plainL a && plainL b)
  | [], b => by simp [plainL]
  | d :: a, b => by simp only [List.cons_append, plainL, plainL_app a b, Bool.and_assoc]
theorem sz_pos : ∀ d : D, 0 < sz d
  | .tup _ => by simp [sz]
  | .lst _ => by simp [sz]
  | .non => by simp [sz]
  | .bl _ => by simp [sz]
  | .int _ => by simp [sz]
  | .str _ => by simp [sz]
  | .scr _ => by simp [sz]
  | .obj _ => by simp [sz]
theorem szL_len : ∀ l : List D, l.length ≤ szL l
  | [] => Nat.zero_le _
  | d :: r => by
    have a := szL_len r; have b := sz_pos d
    simp only [szL, List.length_cons]; omega
mutual
theorem plain_cl : ∀ d : D, plain d = true → d.cl = true
  | .non, _ => rfl
  | .bl _, _ => rfl
  | .int _, _ => rfl
  | .str _, _ => rfl
  | .tup xs, h => by
    simp only [plain] at h
    simp only [D.cl]
    exact plain_clL xs h
  | .lst xs, h => by
    simp only [plain] at h
    simp only [D.cl]
    exact plain_clL xs h
  | .scr _, h => by simp [plain] at h
  | .obj _, h => by simp [plain] at h
theorem plain_clL : ∀ l : List D, plainL l = true → clL l = true
  | [], _ => rfl
  | d :: r, h => by
    simp only [plainL, Bool.and_eq_true] at h
    simp only [clL, plain_cl d h.1, plain_clL r h.2, Bool.and_self]
end
def same1 : Ss := .cons (.expr (.app (.var 2) (.tup (Es.of [(.idx (.var 3) (.var 5)), (.idx (.var 4) (.var 5))])))) (.nil)
def same2 : T := (.val (.cmp .gt (.b1 .len (.var 2)) (.int 0)))
def same3 : Ss := .cons (.asg (.tup (Gs.of [(.name 3), (.name 4)])) (.pop (.var 2))) (.cons (.ife (.or (.tru (.isI (.var 4) .tuple)) (.tru (.isI (.var 4) .list))) (.cons (.ife (.or (.val (.cmp .ne (.isI (.var 3) .tuple) (.isI (.var 4) .tuple))) (.or (.val (.cmp .ne (.isI (.var 3) .list) (.isI (.var 4) .list))) (.val (.cmp .ne (.b1 .len (.var 3)) (.b1 .len (.var 4)))))) (.cons (.ret (.bl false)) (.nil)) (.nil)) (.cons (.for_ (.name 5) (.rng1 (.b1 .len (.var 4))) same1) (.nil))) (.cons (.ife (.tru (.isI (.var 4) .str)) (.cons (.ife (.or (.not (.tru (.isI (.var 3) .str))) (.val (.cmp .ne (.var 3) (.var 4)))) (.cons (.ret (.bl false)) (.nil)) (.nil)) (.nil)) (.cons (.ife (.val (.cmp .isN (.var 4) .non)) (.cons (.ife (.val (.cmp .notN (.var 3) .non)) (.cons (.ret (.bl false)) (.nil)) (.nil)) (.nil)) (.cons (.ife (.or (.val (.cmp .ne (.isI (.var 3) .bool) (.isI (.var 4) .bool))) (.or (.not (.tru (.isI (.var 3) .int))) (.val (.cmp .ne (.var 3) (.var 4))))) (.cons (.ret (.bl false)) (.nil)) (.nil)) (.nil))) (.nil))) (.nil))) (.nil))
def sameB : Ss := .cons (.asg (.name 2) (.newL (Es.of [(.tup (Es.of [(.var 0), (.var 1)]))]))) (.cons (.whl same2 same3) (.cons (.ret (.bl true)) (.nil)))
def dd (d : D) : D := .tup [d, d]
theorem same_for (C : Cc) (a : Option D) (z : Option D) (d : D) (ds : List D) (hat : ∀ s i, atD s d (.int i) = L2.atI ds i) (r : List D) (hz : r.length + ds.length ≤ 100000) :
    ∃ z', forE C (.name 5) same1 ((List.range ds.length).map fun (i : Nat) => D.int (i : Int)) [a, a, some (.obj 0), some d, some d, z] [some (.lst (r.map dd))] = some (.nx [a, a, some (.obj 0), some d, some d, z'] [some (.lst ((r ++ ds).map dd))]) := by
  obtain ⟨env', s', h1, z', rfl, rfl⟩ := forE_inv (C := C) (g := .name 5) (b := same1) (env := [a, a, some (.obj 0), some d, some d, z]) (s := [some (.lst (r.map dd))]) (fun (i : Nat) => D.int (i : Int))
    (fun p env s => ∃ z', env = [a, a, some (.obj 0), some d, some d, z'] ∧ s = [some (.lst ((r ++ ds.take p.length).map dd))]) (List.range ds.length) ⟨z, rfl, by simp⟩ (by
      rintro p i q _ _ hl ⟨z', rfl, rfl⟩
      have hpl := congrArg List.length hl
      simp only [List.length_range, List.length_append, List.length_cons] at hpl
      have hi : i = p.length := by
        have := congrArg (fun l => l[p.length]?) hl
        simp [List.getElem?_range (show p.length < ds.length by omega)] at this
        omega
      subst hi
      have hpd : p.length < ds.length := by omega
      have e2 : ds.take (p.length + 1) = ds.take p.length ++ [ds[p.length]] := by rw [List.take_succ, List.getElem?_eq_getElem hpd]; rfl
      refine ⟨_, [a, a, some (.obj 0), some d, some d, some (.int p.length)], [some (.lst ((r ++ (ds.take p.length ++ [ds[p.length]])).map dd))], rfl, ?_, some (.int p.length), rfl, by rw [List.length_append, List.length_singleton, e2]⟩
      have e1 : ∀ s, atD s d (.int (p.length : Int)) = some ds[p.length] := fun s => by rw [hat]; simp
      have e3 : r.length + min p.length ds.length < 1000000 := by omega
      simp [same1, Es.of, e1, ZL, e3]
      rw [show (D.tup [ds[p.length], ds[p.length]]) = dd ds[p.length] from rfl, ← List.map_take, ← List.map_take, e2, List.map_append]; rfl)
  refine ⟨z', ?_⟩
  rw [h1]
  simp
theorem same_ok {P : Pr} {wf i : Nat} (hi : P.df i = some ⟨2, 6, sameB⟩) (hwf : 100000 < wf) {k : Nat} (hk : 1 ≤ k) {d : D} (hp : plain d = true) (hz : sz d ≤ 100000) (b : Nat) (s : Sto) : (CC P wf k b).run true i [d, d] s = some (.bl true, s) := by
  obtain ⟨k, rfl⟩ := Nat.exists_eq_add_of_le' hk
  have hcl := plain_cl d hp
  obtain ⟨env', s', h1, x, y, z, rfl, rfl⟩ := whlE_inv (C := CC P wf k 0) (t := same2) (b := same3) (env := [some d, some d, some (.obj 0), none, none, none]) (s := [some (.lst [dd d])])
    (fun m env s => ∃ (stk : List D) (x y z : Option D), m = szL stk ∧ env = [some d, some d, some (.obj 0), x, y, z] ∧ s = [some (.lst (stk.map dd))] ∧ plainL stk = true ∧ szL stk ≤ 100000)
    (fun env s => ∃ x y z, env = [some d, some d, some (.obj 0), x, y, z] ∧ s = [some (.lst [])]) (sz d) (by show sz d < wf; omega)
    ⟨[d], none, none, none, by simp [szL], rfl, rfl, by simp [plainL, hp], by simp [szL]; omega⟩ (by
      rintro m env s ⟨stk, x, y, z, rfl, rfl, rfl, hpl, hsz⟩
      rcases List.eq_nil_or_concat stk with rfl | ⟨r, e, rfl⟩
      · exact .inl ⟨[some (.lst [])], by simp [same2, lenD], x, y, z, rfl, rfl⟩
      · rw [List.concat_eq_append] at *
        rw [plainL_app] at hpl
        rw [szL_app] at hsz
        simp only [plainL, Bool.and_true, Bool.and_eq_true] at hpl
        simp only [szL, Nat.add_zero] at hsz
        refine .inr ⟨[some (.lst ((r ++ [e]).map dd))], ?_⟩
        have hc : evT (CC P wf k 0) [some d, some d, some (.obj 0), x, y, z] same2 [some (.lst ((r ++ [e]).map dd))] = some (true, [some (.lst ((r ++ [e]).map dd))]) := by simp [same2, lenD]
        have e2 : szL (r ++ [e]) = szL r + sz e := by rw [szL_app]; simp [szL]
        have hlen := szL_len r
        have leaf : (∃ z', exSs (CC P wf k 0) same3 [some d, some d, some (.obj 0), x, y, z] [some (.lst ((r ++ [e]).map dd))] = some (.nx [some d, some d, some (.obj 0), some e, some e, z'] [some (.lst (r.map dd))])) →
            ∃ e2 s2 m2, evT (CC P wf k 0) [some d, some d, some (.obj 0), x, y, z] same2 [some (.lst ((r ++ [e]).map dd))] = some (true, [some (.lst ((r ++ [e]).map dd))]) ∧ exSs (CC P wf k 0) same3 [some d, some d, some (.obj 0), x, y, z] [some (.lst ((r ++ [e]).map dd))] = some (.nx e2 s2) ∧ m2 < szL (r ++ [e]) ∧ ∃ (stk : List D) (x y z : Option D), m2 = szL stk ∧ e2 = [some d, some d, some (.obj 0), x, y, z] ∧ s2 = [some (.lst (stk.map dd))] ∧ plainL stk = true ∧ szL stk ≤ 100000 := fun ⟨z', hz'⟩ =>
          ⟨_, _, szL r, hc, hz', by rw [e2]; have := sz_pos e; omega, r, _, _, _, rfl, rfl, rfl, hpl.1, by omega⟩
        have node : ∀ ds : List D, szL ds + 1 = sz e → plainL ds = true → (∃ z', exSs (CC P wf k 0) same3 [some d, some d, some (.obj 0), x, y, z] [some (.lst ((r ++ [e]).map dd))] = some (.nx [some d, some d, some (.obj 0), some e, some e, z'] [some (.lst ((r ++ ds).map dd))])) →
            ∃ e2 s2 m2, evT (CC P wf k 0) [some d, some d, some (.obj 0), x, y, z] same2 [some (.lst ((r ++ [e]).map dd))] = some (true, [some (.lst ((r ++ [e]).map dd))]) ∧ exSs (CC P wf k 0) same3 [some d, some d, some (.obj 0), x, y, z] [some (.lst ((r ++ [e]).map dd))] = some (.nx e2 s2) ∧ m2 < szL (r ++ [e]) ∧ ∃ (stk : List D) (x y z : Option D), m2 = szL stk ∧ e2 = [some d, some d, some (.obj 0), x, y, z] ∧ s2 = [some (.lst (stk.map dd))] ∧ plainL stk = true ∧ szL stk ≤ 100000 := fun ds h1 h2 ⟨z', hz'⟩ =>
          ⟨_, _, szL (r ++ ds), hc, hz', by rw [e2, szL_app]; omega, r ++ ds, _, _, _, rfl, rfl, rfl, by rw [plainL_app, hpl.1, h2]; rfl, by rw [szL_app]; omega⟩
        cases e with
        | non => exact leaf ⟨z, by simp [same3, Gs.of, isID, dd, evCmp]⟩
        | bl u => exact leaf ⟨z, by simp [same3, Gs.of, isID, dd, evCmp, scalEq]⟩
        | int u => exact leaf ⟨z, by simp [same3, Gs.of, isID, dd, evCmp, scalEq]⟩
        | str u => exact leaf ⟨z, by simp [same3, Gs.of, isID, dd, evCmp, scalEq]⟩
        | scr u => simp [plain] at hpl
        | obj u => simp [plain] at hpl
        | tup ds =>
          simp only [sz] at hsz
          have hl := szL_len ds
          obtain ⟨z', hf⟩ := same_for (CC P wf k 0) (some d) z (.tup ds) ds (fun s i => rfl) r (by omega)
          have h3 : (ds.length : Int) ≤ 1000000 := by omega
          have h4 : -1000000 ≤ (ds.length : Int) := by omega
          exact node ds rfl (by simpa [plain] using hpl.2) ⟨z', by simp [same3, Gs.of, isID, dd, evCmp, scalEq, rg_nat, hf, ZL, h3, h4]⟩
        | lst ds =>
          simp only [sz] at hsz
          have hl := szL_len ds
          obtain ⟨z', hf⟩ := same_for (CC P wf k 0) (some d) z (.lst ds) ds (fun s i => rfl) r (by omega)
          have h3 : (ds.length : Int) ≤ 1000000 := by omega
          have h4 : -1000000 ≤ (ds.length : Int) := by omega
          exact node ds rfl (by simpa [plain] using hpl.2) ⟨z', by simp [same3, Gs.of, isID, dd, evCmp, scalEq, rg_nat, hf, ZL, h3, h4]⟩)
  refine pure_call (by simp [clL, hcl]) (s' := [some (.lst [])]) ?_ rfl b s
  rw [go hi rfl]
  have e1 : D.tup [d, d] = dd d := rfl
  simp [sameB, Es.of, e1, h1, ZL]
end Mx

/-! Mx, part G: the settings that the laws k90 to k99 draw. -/
namespace Mx
open PySem Fw
def eN (n : Nat) : D := .int n
def eT (p : Str × Str) : D := .tup [.str p.1, .str p.2]
def eP (p : Str × Nat) : D := .tup [.str p.1, .int p.2]
structure Stg where
  nm : List Str
  tr : List (Str × Str)
  pl : List (Str × Nat)
def Stg.d (S : Stg) : D := .tup [.tup (S.nm.map .str), .tup (S.tr.map eT), .tup (S.pl.map eP)]
def names9 : List Str := ["red", "blue", "m3", "a", "green", "red", "blue", "m3", "a"]
def pool8 : List Str := ["x1", "b", "w1", "p4", "q", "zz9", "k7", "eightlet"]
def trayN : List Str := ["bag", "t2", "ring1"]
def man5 : List Str := ["any", "ring", "turn", "fixed", "any"]
def mans : List Str := ["any", "ring", "turn", "fixed"]
structure Stg.ok (S : Stg) (most : Nat) : Prop where
  n2 : 2 ≤ S.nm.length
  n5 : S.nm.length ≤ if S.pl.length > 5 then 2 else if S.pl.length > 3 then 3 else 5
  nx : ∃ t, t < 5 ∧ S.nm = (names9.drop t).take S.nm.length
  t1 : 1 ≤ S.tr.length
  t3 : S.tr.length ≤ 3
  tx : S.tr.map (·.1) = trayN.take S.tr.length
  tm : ∀ x ∈ S.tr, x.2 ∈ mans
  p1 : 1 ≤ S.pl.length
  pm : S.pl.length ≤ most
  p8 : S.pl.length ≤ 8
  px : S.pl.map (·.1) = pool8.take S.pl.length
  pt : ∀ x ∈ S.pl, x.2 < S.tr.length
theorem ev_strs (C : Cc) (env : En) (s : Sto) : ∀ l : List Str, evEs C env (Es.of (l.map E.str)) s = some (l.map D.str, s)
  | [] => by simp [Es.of]
  | x :: l => by simp [Es.of, ev_strs C env s l]
section
variable (it : Nat)
def setg1 : E := (.tup (Es.of [(.idx (.var 8) (.var 6)), (.call false it (Es.of [(.var 0), (.str "tray"), (.b1 .len (.var 5))]))]))
def setg2 : Ss := .cons (.expr (.app (.var 5) (.tup (Es.of [(.idx (.tup (Es.of (trayN.map .str))) (.var 6)), (.idx (.tup (Es.of (man5.map .str))) (.call false it (Es.of [(.var 0), (.str "manner"), (.int 5)])))])))) (.nil)
def setgB : Ss := .cons (.asg (.name 2) (.bin .add (.int 1) (.call false it (Es.of [(.var 0), (.str "places"), (.var 1)])))) (.cons (.asg (.name 3) (.bin .add (.int 2) (.call false it (Es.of [(.var 0), (.str "marks"), (.ife (.val (.cmp .gt (.var 2) (.int 5))) (.int 1) (.ife (.val (.cmp .gt (.var 2) (.int 3))) (.int 2) (.int 4)))])))) (.cons (.asg (.name 4) (.call false it (Es.of [(.var 0), (.str "names"), (.int 5)]))) (.cons (.asg (.name 5) (.newL .nil)) (.cons (.for_ (.name 6) (.rng1 (.bin .add (.int 1) (.call false it (Es.of [(.var 0), (.str "trays"), (.int 3)])))) (setg2 it)) (.cons (.asg (.name 7) (.slc (.tup (Es.of (names9.map .str))) (.some (.var 4)) (.some (.bin .add (.var 4) (.var 3))))) (.cons (.asg (.name 8) (.tup (Es.of (pool8.map .str)))) (.cons (.asg (.name 9) (.lc (.name 6) (.rng1 (.var 2)) .yes (setg1 it) [6])) (.cons (.ret (.tup (Es.of [(.var 7), (.b1 .tup (.var 5)), (.b1 .tup (.var 9))]))) (.nil)))))))))
end
theorem pool_at {l : List Str} {n : Nat} (h : n < l.length) : (l.map D.str)[n]? = some (.str l[n]) := by rw [List.getElem?_map, List.getElem?_eq_getElem h]; rfl
theorem range_at {n : Nat} {p q : List Nat} {y : Nat} (h : List.range n = p ++ y :: q) : y = p.length ∧ p.length < n := by
  have hl := congrArg List.length h
  simp only [List.length_range, List.length_append, List.length_cons] at hl
  have := congrArg (fun l => l[p.length]?) h
  simp [List.getElem?_range (show p.length < n by omega)] at this
  exact ⟨by omega, by omega⟩
theorem man5_mans : ∀ x ∈ man5, x ∈ mans := by simp [man5, mans]
@[simp] theorem trayN_len : trayN.length = 3 := rfl
@[simp] theorem man5_len : man5.length = 5 := rfl
@[simp] theorem names9_len : names9.length = 9 := rfl
@[simp] theorem pool8_len : pool8.length = 8 := rfl
def markN (many : Nat) : Nat := if many > 5 then 1 else if many > 3 then 2 else 4
theorem markE (C : Cc) (env : En) (s : Sto) (many : Nat) (h : env[2]? = some (some (.int many))) : evE C env (.ife (.val (.cmp .gt (.var 2) (.int 5))) (.int 1) (.ife (.val (.cmp .gt (.var 2) (.int 3))) (.int 2) (.int 4))) s = some (.int (markN many), s) := by
  unfold markN
  by_cases h5 : many > 5
  · have : (5 : Int) < many := by omega
    simp [h, h5, this]
  · have n5 : ¬ (5 : Int) < many := by omega
    by_cases h3 : many > 3
    · have : (3 : Int) < many := by omega
      simp [h, h5, h3, n5, this]
    · have n3 : ¬ (3 : Int) < many := by omega
      simp [h, h5, h3, n5, n3]
theorem setting_ok {P : Pr} {wf i it : Nat} {pls : List Str} (T : Take P it pls) (hi : P.df i = some ⟨2, 10, setgB it⟩) (hpl : ∀ x ∈ (["places", "marks", "names", "trays", "manner", "tray"] : List Str), x ∈ pls) {k : Nat} (hk : 2 ≤ k) {s : Sto} (hs : Cl pls s) (most : Nat) (h1 : 1 ≤ most) (h8 : most ≤ 8) :
    ∃ (S : Stg) (s' : Sto), run P wf k i [.obj 2, .int most] s = some (S.d, s') ∧ S.ok most ∧ Cl pls s' ∧ Keep s s' [0, 1, 2] := by
  obtain ⟨k, rfl⟩ := Nat.exists_eq_add_of_le' (show 1 ≤ k by omega)
  have hk1 : 1 ≤ k := by omega
  obtain ⟨r1, s1, e1, t1, b1⟩ := take_ok (wf := wf) T hk1 hs (hpl "places" (by simp)) most (by omega)
  obtain ⟨many, hmany⟩ : ∃ n, n = 1 + r1 := ⟨_, rfl⟩
  have hmk : markN many ≤ 4 := by unfold markN; split; omega; split <;> omega
  obtain ⟨r2, s2, e2, t2, b2⟩ := take_ok (wf := wf) T hk1 t1.cl (hpl "marks" (by simp)) (markN many) (by omega)
  obtain ⟨r3, s3, e3, t3, b3⟩ := take_ok (wf := wf) T hk1 t2.cl (hpl "names" (by simp)) 5 (by omega) 5
  obtain ⟨r4, s4, e4, t4, b4⟩ := take_ok (wf := wf) T hk1 (t3.cl.app [some (.lst [])]) (hpl "trays" (by simp)) 3 (by omega) 3
  obtain ⟨mks, hmks⟩ : ∃ n, n = 2 + r2 := ⟨_, rfl⟩
  obtain ⟨ntr, hntr⟩ : ∃ n, n = 1 + r4 := ⟨_, rfl⟩
  have hr3 : r3 < 5 := by omega
  have hr4 : r4 < 3 := by omega
  have l3 : s3.length = s.length := by rw [t3.len, t2.len, t1.len]
  have K4 : Keep s s4 [0, 1, 2] := ((t1.kp.trans t2.kp).trans t3.kp).trans ((Keep.app s3 [some (.lst [])] [0, 1, 2]).trans t4.kp)
  have hs3 : 3 ≤ s3.length := t3.cl.len
  have hn3 : s3.length ∉ [0, 1, 2] := n012 hs3
  have g4 : getO s4 s3.length = some (.lst []) := t4.kp.get (by simp) hn3
  -- the trays
  obtain ⟨env', s5, f1, tr, x, rfl, c5, g5, htr, hl5, hx5, K5⟩ := forE_inv (C := CC P wf k s.length) (g := .name 6) (b := setg2 it) (env := [some (.obj 2), some (.int most), some (.int many), some (.int mks), some (.int r3), some (.obj s3.length), none, none, none, none]) (s := s4) eN
    (fun p env s' => ∃ (tr : List (Str × Str)) (x : Option D), env = [some (.obj 2), some (.int most), some (.int many), some (.int mks), some (.int r3), some (.obj s3.length), x, none, none, none] ∧ Cl pls s' ∧ getO s' s3.length = some (.lst (tr.map eT)) ∧ (∀ x ∈ tr, x.2 ∈ mans) ∧ tr.length = p.length ∧ tr.map (·.1) = trayN.take p.length ∧ Keep s s' [0, 1, 2]) (List.range ntr)
    ⟨[], none, rfl, t4.cl, g4, by simp, rfl, rfl, K4⟩ (by
      rintro p y q _ s' hl ⟨tr, x, rfl, c', g', htr, hlen, hnm, K'⟩
      obtain ⟨rfl, hy⟩ := range_at hl
      obtain ⟨r, s6, e6, t6, b6⟩ := take_ok (wf := wf) T hk1 c' (hpl "manner" (by simp)) 5 (by omega) 5
      have g6 : getO s6 s3.length = some (.lst (tr.map eT)) := t6.kp.get g' hn3
      have hp3 : p.length < trayN.length := by simp [trayN]; omega
      have hr5 : r < man5.length := by simp [man5]; omega
      have q1 := pool_at hp3
      have q2 := pool_at hr5
      have hmn : man5[r] ∈ mans := man5_mans _ (List.getElem_mem hr5)
      have hz : tr.length < 1000000 := by rw [hlen]; omega
      refine ⟨_, [some (.obj 2), some (.int most), some (.int many), some (.int mks), some (.int r3), some (.obj s3.length), some (eN p.length), none, none, none], setO s6 s3.length (some (.lst ((tr ++ [(trayN[p.length], man5[r])]).map eT))), rfl, ?_, tr ++ [(trayN[p.length], man5[r])], _, rfl, t6.cl.set hs3 _, getO_set _ _ (getO_lt g6), ?_, by simp [hlen], ?_, (K'.trans t6.kp).tr (Keep.set s6 s3.length _ [s3.length] (.inl (by simp))) fun n hn => .inr (by simp at hn; omega)⟩
      · simp [setg2, Es.of, ev_strs, eN, q1, q2, e6, g', g6, ZL, hz, eT]
      · intro z hz
        rcases List.mem_append.mp hz with h | h
        · exact htr z h
        · simp at h; subst h; exact hmn
      · rw [List.map_append, hnm, List.length_append, List.length_singleton, List.take_succ, List.getElem?_eq_getElem hp3]; rfl)
  have htl : tr.length = ntr := by rw [hl5, List.length_range]
  have hmk2 : r2 < 4 := by omega
  -- the names
  have hcut : cutD (names9.map D.str) (some (r3 : Int)) (some ((r3 + mks : Nat) : Int)) = ((names9.drop r3).take mks).map D.str := by
    rw [slc_ft _ _ _ (by simp; omega) (by simp; omega), List.map_take, List.map_drop]
    congr 1; omega
  obtain ⟨NM, hNM⟩ : ∃ l : List D, l = ((names9.drop r3).take mks).map D.str := ⟨_, rfl⟩
  rw [← hNM] at hcut
  -- the places
  have hr1 : r1 < 8 := by omega
  obtain ⟨out, s7, f2, pl, rfl, c7, g7, hpn, hpt, hpln, K7⟩ := lc_inv (C := CC P wf k s.length) (g := .name 6) (t := .yes) (e := setg1 it) (own := [6]) (s := s5)
    (env := [some (.obj 2), some (.int most), some (.int many), some (.int mks), some (.int r3), some (.obj s3.length), x, some (.tup NM), some (.tup (pool8.map D.str)), none]) eN
    (fun p acc s' => ∃ pl : List (Str × Nat), acc = pl.map eP ∧ Cl pls s' ∧ getO s' s3.length = some (.lst (tr.map eT)) ∧ pl.map (·.1) = pool8.take p.length ∧ (∀ x ∈ pl, x.2 < tr.length) ∧ pl.length = p.length ∧ Keep s s' [0, 1, 2]) (List.range many) (by rw [List.length_range]; omega)
    ⟨[], rfl, c5, g5, rfl, by simp, rfl, K5⟩ (by
      rintro p y q _ s' hl ⟨pl, rfl, c', g', hpn, hpt, hpln, K'⟩
      obtain ⟨rfl, hy⟩ := range_at hl
      obtain ⟨r, s8, e8, t8, b8⟩ := take_ok (wf := wf) T hk1 c' (hpl "tray" (by simp)) tr.length (by omega)
      have hp8 : p.length < pool8.length := by simp; omega
      have q1 := pool_at hp8
      refine ⟨some (eP (pool8[p.length], r)), s8, ?_, pl ++ [(pool8[p.length], r)], by simp, t8.cl, t8.kp.get g' hn3, ?_, ?_, by simp [hpln], K'.trans t8.kp⟩
      · simp [lcF, wipeD, setg1, Es.of, eN, q1, len_obj g', e8, eP]
      · rw [List.map_append, hpn, List.length_append, List.length_singleton, List.take_succ, List.getElem?_eq_getElem hp8]; rfl
      · intro z hz
        rcases List.mem_append.mp hz with h | h
        · exact hpt z h
        · simp at h; subst h; simp only; omega)
  have hpl1 : pl.length = many := by rw [hpln, List.length_range]
  have hnl : ((names9.drop r3).take mks).length = mks := by
    rw [List.length_take, List.length_drop, names9_len]; omega
  refine ⟨⟨(names9.drop r3).take mks, tr, pl⟩, s7, ?_, ⟨?_, ?_, ⟨r3, hr3, by rw [hnl]⟩, ?_, ?_, ?_, htr, ?_, ?_, ?_, ?_, hpt⟩, c7, K7⟩
  · rw [go hi rfl]
    have e5 := fun st => markE (CC P wf k s.length) [some (.obj 2), some (.int most), some (.int many), none, none, none, none, none, none, none] st many rfl
    have h4 : (ntr : Int) ≤ 1000000 := by omega
    have h5 : -1000000 ≤ (ntr : Int) := by omega
    have h6 : (many : Int) ≤ 1000000 := by omega
    have h7 : -1000000 ≤ (many : Int) := by omega
    have a1 : (1 : Int) + r1 = many := by omega
    have a2 : (2 : Int) + r2 = mks := by omega
    have a3 : (1 : Int) + r4 = ntr := by omega
    have a4 : (r3 : Int) + mks = ((r3 + mks : Nat) : Int) := by omega
    have hcut' := hcut
    rw [← a4] at hcut'
    refine st (F := fin) (e1 := [some (.obj 2), some (.int most), some (.int many), none, none, none, none, none, none, none]) (s1 := s1) (by simp [Es.of, e1, a1]) ?_
    refine st (F := fin) (e1 := [some (.obj 2), some (.int most), some (.int many), some (.int mks), none, none, none, none, none, none]) (s1 := s2) (by simp only [exS_asg, evE_bin, evE_call, evE_int, Es.of, evEs_cons, evEs_nil, e5]; simp [e2, a2]) ?_
    refine st (F := fin) (e1 := [some (.obj 2), some (.int most), some (.int many), some (.int mks), some (.int r3), none, none, none, none, none]) (s1 := s3) (by simp [Es.of, e3]) ?_
    refine st (F := fin) (e1 := [some (.obj 2), some (.int most), some (.int many), some (.int mks), some (.int r3), some (.obj s3.length), none, none, none, none]) (s1 := s3 ++ [some (.lst [])]) (by simp) ?_
    refine st (F := fin) (e1 := [some (.obj 2), some (.int most), some (.int many), some (.int mks), some (.int r3), some (.obj s3.length), x, none, none, none]) (s1 := s5) ?_ ?_
    · have f1' : forE (CC P wf k s.length) (.name 6) (setg2 it) ((List.range ntr).map fun (i : Nat) => D.int (i : Int)) _ _ = _ := f1
      simp [Es.of, e4, a3, h4, h5, rg_nat, f1']
    refine st (F := fin) (e1 := [some (.obj 2), some (.int most), some (.int many), some (.int mks), some (.int r3), some (.obj s3.length), x, some (.tup NM), none, none]) (s1 := s5) (by simp [ev_strs, hcut']) ?_
    refine st (F := fin) (e1 := [some (.obj 2), some (.int most), some (.int many), some (.int mks), some (.int r3), some (.obj s3.length), x, some (.tup NM), some (.tup (pool8.map D.str)), none]) (s1 := s5) (by simp [ev_strs]) ?_
    refine st (F := fin) (e1 := [some (.obj 2), some (.int most), some (.int many), some (.int mks), some (.int r3), some (.obj s3.length), x, some (.tup NM), some (.tup (pool8.map D.str)), some (.lst (pl.map eP))]) (s1 := s7) ?_ ?_
    · have f2' : srcGo _ (.vals ((List.range many).map fun (i : Nat) => D.int (i : Int))) _ = _ := f2
      simp [h6, h7, rg_nat, f2']
    simp [Es.of, list_obj g7, Stg.d, hNM]
  · show 2 ≤ ((names9.drop r3).take mks).length
    rw [hnl]; omega
  · show ((names9.drop r3).take mks).length ≤ if pl.length > 5 then 2 else if pl.length > 3 then 3 else 5
    rw [hnl, hpl1]
    unfold markN at b2
    split
    · rename_i h; rw [if_pos h] at b2; omega
    · rename_i h; rw [if_neg h] at b2
      split
      · rename_i h; rw [if_pos h] at b2; omega
      · rename_i h; rw [if_neg h] at b2; omega
  · show 1 ≤ tr.length; omega
  · show tr.length ≤ 3; omega
  · show tr.map (·.1) = trayN.take tr.length
    rw [hx5, hl5]
  · show 1 ≤ pl.length; omega
  · show pl.length ≤ most; omega
  · show pl.length ≤ 8; omega
  · show pl.map (·.1) = pool8.take pl.length
    rw [hpn, hpln]
end Mx

/-! Mx, part L: lists of whole numbers: sorted, compared, looked for; with their numbers. -/
namespace Mx
open PySem Fw
theorem toPL_int : ∀ l : List Int, toPL (l.map D.int) = some (l.map PyData.int)
  | [] => rfl
  | x :: l => by simp only [List.map_cons, toPL, D.toP, toPL_int l]
theorem sort_ints (l : List Int) (h : l.length ≤ 1000000) : sortDs (l.map D.int) = some ((l.mergeSort fun a b => decide (a ≤ b)).map D.int) := by
  unfold sortDs
  rw [toPL_int]
  simp only
  rw [if_pos]
  · congr 1
    have e1 : (l.map D.int).zip (l.map PyData.int) = l.map fun i => (D.int i, PyData.int i) := by
      rw [List.zip_map']
    rw [e1, ← List.map_mergeSort (r := fun a b => decide (a ≤ b)) (f := fun i => (D.int i, PyData.int i)), List.map_map]
    · rfl
    · intro a _ b _
      exact (congrFun (congrFun (PySem.W.dataLe_int (fun b : Int => b)) a) b).symm
  · refine ⟨by rw [List.length_map]; exact h, ?_, ?_, ?_⟩
    · rw [List.all_eq_true]
      intro p hp
      rw [List.all_eq_true]
      intro q hq
      obtain ⟨x, _, rfl⟩ := List.mem_map.mp hp
      obtain ⟨y, _, rfl⟩ := List.mem_map.mp hq
      simp [PySem.W.alike]
    · unfold sortB
      have : ((l.map PyData.int).all ntup) = true := by
        rw [List.all_eq_true]
        intro p hp
        obtain ⟨x, _, rfl⟩ := List.mem_map.mp hp
        rfl
      rw [this, Bool.or_true]
    · rw [List.all_eq_true]
      intro p hp
      obtain ⟨x, _, rfl⟩ := List.mem_map.mp hp
      simp [PyData.depth]
theorem eqv_ints : ∀ a b : List Int, PyData.eqvAll (a.map PyData.int) (b.map PyData.int) = decide (a = b)
  | [], [] => by simp [PyData.eqvAll]
  | [], _ :: _ => by simp [PyData.eqvAll]
  | _ :: _, [] => by simp [PyData.eqvAll]
  | x :: a, y :: b => by
    simp only [List.map_cons, PyData.eqvAll, PyData.eqv, eqv_ints a b]
    by_cases h : x = y
    · subst h; simp
    · simp [h]
theorem lay_ints : ∀ ms : List Int, PyData.canLayAll0 (ms.map PyData.int) = true ∧ PyData.depthAll (ms.map PyData.int) = 0
  | [] => by simp [PyData.canLayAll0, PyData.depthAll]
  | m :: r => by
    obtain ⟨a, b⟩ := lay_ints r
    simp [PyData.canLayAll0, PyData.depthAll, PyData.canLay0, PyData.depth, a, b]
theorem shaped_ints (l : List Int) : SeqAt.shaped (.list (l.map PyData.int)) = true := by
  obtain ⟨a, b⟩ := lay_ints l
  exact Bool.and_eq_true_iff.mpr ⟨by simp only [PyData.canLay0, a], decide_eq_true (by simp only [PyData.depth, b]; omega)⟩
theorem eq_ints (a b : List Int) : eqDD (.lst (a.map D.int)) (.lst (b.map D.int)) = some (decide (a = b)) := by
  unfold eqDD
  simp only [D.toP, toPL_int, Option.map_some, shaped_ints, and_self, if_true, PyData.eqv, eqv_ints]
def lstI (l : List Int) : D := .lst (l.map .int)
theorem toPL_lstI : ∀ ls : List (List Int), toPL (ls.map lstI) = some (ls.map fun l => PyData.list (l.map PyData.int))
  | [] => rfl
  | x :: l => by simp only [List.map_cons, toPL, lstI, D.toP, toPL_int, Option.map_some, toPL_lstI l]
theorem lay_lists : ∀ ls : List (List Int), PyData.canLayAll0 (ls.map fun l => PyData.list (l.map PyData.int)) = true ∧ PyData.depthAll (ls.map fun l => PyData.list (l.map PyData.int)) ≤ 1
  | [] => by simp [PyData.canLayAll0, PyData.depthAll]
  | m :: r => by
    obtain ⟨a, b⟩ := lay_lists r
    obtain ⟨c, d⟩ := lay_ints m
    simp only [List.map_cons, PyData.canLayAll0, PyData.depthAll, PyData.canLay0, PyData.depth, a, c, d, Bool.and_self]
    exact ⟨trivial, by omega⟩
/-- a list of numbers among lists of numbers -/
theorem in_lists (a : List Int) (ls : List (List Int)) : inD (lstI a) (.lst (ls.map lstI)) = some (decide (a ∈ ls)) := by
  obtain ⟨c, d⟩ := lay_lists ls
  have hs : SeqAt.shaped (.list (ls.map fun l => PyData.list (l.map PyData.int))) = true := Bool.and_eq_true_iff.mpr ⟨by simp only [PyData.canLay0, c], decide_eq_true (by simp only [PyData.depth]; omega)⟩
  have e1 : (lstI a).toP = some (.list (a.map PyData.int)) := by simp only [lstI, D.toP, toPL_int, Option.map_some]
  have e2 : (D.lst (ls.map lstI)).toP = some (.list (ls.map fun l => PyData.list (l.map PyData.int))) := by simp only [D.toP, toPL_lstI, Option.map_some]
  unfold inD
  simp only [seqD]
  rw [if_neg (by simp [lstI, flatD]), e1, e2]
  simp only [shaped_ints, hs, and_self, if_true]
  congr 1
  rw [List.any_map, Bool.eq_iff_iff, List.any_eq_true, decide_eq_true_eq]
  constructor
  · rintro ⟨x, hx, h⟩
    simp only [Function.comp_def, PyData.eqv, eqv_ints, decide_eq_true_eq] at h
    subst h; exact hx
  · intro h
    exact ⟨a, h, by simp [Function.comp_def, PyData.eqv, eqv_ints]⟩
/-- with their numbers -/
theorem num_map {α : Type} (f : α → D) : ∀ (l : List α) (k : Nat), numD k (l.map f) = (l.zipIdx k).map fun x => .tup [.int (x.2 : Int), f x.1]
  | [], k => rfl
  | x :: l, k => by
    rw [List.map_cons, numD, num_map f l (k + 1), List.zipIdx_cons, List.map_cons]
theorem zip_idx {α : Type} (l : List α) : l.zipIdx = (List.range l.length).zipWith (fun i x => (x, i)) l := by
  apply List.ext_getElem?
  intro i
  rw [List.getElem?_zipIdx, List.getElem?_zipWith]
  by_cases h : i < l.length
  · rw [List.getElem?_range h, List.getElem?_eq_getElem h]; simp
  · rw [List.getElem?_eq_none (Nat.le_of_not_lt h)]; simp
theorem bls_map {α : Type} (f : α → Bool) : ∀ l : List α, blsD (l.map fun x => .bl (f x)) = some (l.map f)
  | [] => rfl
  | x :: l => by simp only [List.map_cons, blsD, bls_map f l, Option.map_some]
/-- a for that goes on or hands back d at the first that is not as p -/
theorem forE_find {α : Type} {C : Cc} {g : G} {bd : Ss} (en : α → D) (p : α → Bool) (I : En → Prop) (d : D) (s : Sto) : ∀ (l : List α) (env : En), I env →
    (∀ x ∈ l, ∀ env, I env → ∃ e1, asgG g (en x) env = some e1 ∧ ((p x = true ∧ ∃ e2, exSs C bd e1 s = some (.nx e2 s) ∧ I e2) ∨ (p x = false ∧ exSs C bd e1 s = some (.rt d s)))) →
    (l.all p = true ∧ ∃ env', forE C g bd (l.map en) env s = some (.nx env' s) ∧ I env') ∨ (l.all p = false ∧ forE C g bd (l.map en) env s = some (.rt d s))
  | [], env, h, _ => .inl ⟨rfl, env, rfl, h⟩
  | x :: l, env, h, hs => by
    obtain ⟨e1, a1, h1⟩ := hs x (List.mem_cons_self ..) env h
    rcases h1 with ⟨hp, e2, h2, i2⟩ | ⟨hp, h2⟩
    · have ih := forE_find en p I d s l e2 i2 fun y hy => hs y (List.mem_cons_of_mem _ hy)
      have e : forE C g bd ((x :: l).map en) env s = forE C g bd (l.map en) e2 s := by
        simp only [forE, List.map_cons, forV, a1, h2]
      rw [e, List.all_cons, hp, Bool.true_and]
      exact ih
    · refine .inr ⟨by rw [List.all_cons, hp, Bool.false_and], ?_⟩
      simp only [forE, List.map_cons, forV, a1, h2]
/-- what stands at a place -/
def getn (l : List Nat) (i : Nat) : Nat := l.getD i 0
def geti (l : List Int) (i : Nat) : Int := l.getD i 0
theorem getn_eq {l : List Nat} {i : Nat} (h : i < l.length) : getn l i = l[i] := by unfold getn; rw [List.getD_eq_getElem?_getD, List.getElem?_eq_getElem h]; rfl
theorem geti_eq {l : List Int} {i : Nat} (h : i < l.length) : geti l i = l[i] := by unfold geti; rw [List.getD_eq_getElem?_getD, List.getElem?_eq_getElem h]; rfl
theorem getn_some {l : List Nat} {i : Nat} (h : i < l.length) : l[i]? = some (getn l i) := by rw [getn_eq h, List.getElem?_eq_getElem h]
theorem geti_some {l : List Int} {i : Nat} (h : i < l.length) : l[i]? = some (geti l i) := by rw [geti_eq h, List.getElem?_eq_getElem h]
theorem in_strs (m : Str) (l : List Str) : inD (.str m) (.tup (l.map .str)) = some (decide (m ∈ l)) := by
  unfold inD
  simp only [seqD]
  rw [if_pos ⟨rfl, by rw [List.all_eq_true]; intro x hx; obtain ⟨y, _, rfl⟩ := List.mem_map.mp hx; rfl⟩]
  congr 1
  rw [List.any_map, Bool.eq_iff_iff, List.any_eq_true, decide_eq_true_eq]
  constructor
  · rintro ⟨x, hx, h⟩
    have : (x == m) = true := h
    rw [beq_iff_eq] at this
    subst this; exact hx
  · intro h
    exact ⟨m, h, by show (m == m) = true; simp⟩
/-- two together -/
def zp (x y : List D) : List D := List.zipWith (fun x y => D.tup [x, y]) x y
@[simp] theorem zip_tt (x y : List D) : zipSrc (.tup x) (.tup y) = some (.vals (zp x y)) := rfl
@[simp] theorem zip_tl (x y : List D) : zipSrc (.tup x) (.lst y) = some (.vals (zp x y)) := rfl
@[simp] theorem zip_lt (x y : List D) : zipSrc (.lst x) (.tup y) = some (.vals (zp x y)) := rfl
@[simp] theorem zip_ll (x y : List D) : zipSrc (.lst x) (.lst y) = some (.vals (zp x y)) := rfl
theorem zp_map {α β : Type} (f : α → D) (g : β → D) (l : List α) (m : List β) : zp (l.map f) (m.map g) = (l.zip m).map fun x => D.tup [f x.1, g x.2] := by
  unfold zp
  rw [List.zipWith_map, List.zip, List.map_zipWith]
end Mx

/-! The program's functions in our syntax (printed by gen2.py) -/
namespace PG
open PySem Fw
def WF : Nat := 1000000
/-- is_integer: 0 thing -/
def b0 : Ss := .cons (.ret (.and (.isI (.var 0) .int) (.not (.isI (.var 0) .bool)))) (.nil)
/-- tuple_of: 0 thing, 1 many -/
def b1 : Ss := .cons (.ret (.and (.isI (.var 0) .tuple) (.cmp .eq (.b1 .len (.var 0)) (.var 1)))) (.nil)
/-- are_integers: 0 thing, 1 part -/
def b2_1 : E := (.call true 0 (Es.of [(.var 1)]))
def b2 : Ss := .cons (.ret (.b1 .all (.lc (.name 1) (.seq (.var 0)) .yes b2_1 [1]))) (.nil)
/-- places_of: 0 setting, 1 tray, 2 number, 3 place -/
def b3_1 : E := (.var 2)
def b3_2 : T := (.val (.cmp .eq (.idx (.var 3) (.int 1)) (.var 1)))
def b3 : Ss := .cons (.ret (.b1 .tup (.lc (.tup (Gs.of [(.name 2), (.name 3)])) (.enum (.idx (.var 0) (.int 2))) b3_2 b3_1 [2, 3]))) (.nil)
/-- trays_with: 0 setting, 1 number, 2 tray -/
def b4_1 : E := (.tup (Es.of [(.idx (.var 2) (.int 1)), (.call true 3 (Es.of [(.var 0), (.var 1)]))]))
def b4 : Ss := .cons (.ret (.lc (.tup (Gs.of [(.name 1), (.name 2)])) (.enum (.idx (.var 0) (.int 1))) .yes b4_1 [1, 2])) (.nil)
/-- turned: 0 part, 1 many, 2 at -/
def b5_1 : E := (.idx (.var 0) (.bin .mod (.bin .add (.var 2) (.var 1)) (.b1 .len (.var 0))))
def b5 : Ss := .cons (.ret (.lc (.name 2) (.rng1 (.b1 .len (.var 0))) .yes b5_1 [2])) (.nil)
/-- own_layings: 0 manner, 1 part, 2 many -/
def b6_1 : E := (.call true 5 (Es.of [(.var 1), (.var 2)]))
def b6 : Ss := .cons (.ife (.and (.val (.cmp .eq (.var 0) (.str "ring"))) (.tru (.var 1))) (.cons (.ret (.lc (.name 2) (.rng1 (.b1 .len (.var 1))) .yes b6_1 [2])) (.nil)) (.nil)) (.cons (.ife (.and (.val (.cmp .eq (.var 0) (.str "turn"))) (.val (.cmp .gt (.b1 .len (.var 1)) (.int 1)))) (.cons (.ret (.lst (Es.of [(.b1 .lst (.var 1)), (.rev (.b1 .lst (.var 1)))]))) (.nil)) (.nil)) (.cons (.ret (.lst (Es.of [(.b1 .lst (.var 1))]))) (.nil)))
/-- is_own_laying: 0 manner, 1 part, 2 told -/
def b7 : Ss := .cons (.ife (.val (.cmp .eq (.var 0) (.str "any"))) (.cons (.ret (.cmp .eqD (.sort (.var 2)) (.b1 .lst (.var 1)))) (.nil)) (.nil)) (.cons (.ret (.cmp .isin (.var 2) (.call true 6 (Es.of [(.var 0), (.var 1)])))) (.nil))
/-- is_laying: 0 setting, 1 thing, 2 manner, 3 part, 4 place -/
def b8_1 : E := (.idx (.var 1) (.var 4))
def b8_2 : Ss := .cons (.ife (.not (.tru (.call true 7 (Es.of [(.var 2), (.var 3), (.lc (.name 4) (.seq (.var 3)) .yes b8_1 [4])])))) (.cons (.ret (.bl false)) (.nil)) (.nil)) (.nil)
def b8 : Ss := .cons (.ife (.or (.not (.tru (.call true 1 (Es.of [(.var 1), (.b1 .len (.idx (.var 0) (.int 2)))])))) (.not (.tru (.call true 2 (Es.of [(.var 1)]))))) (.cons (.ret (.bl false)) (.nil)) (.nil)) (.cons (.for_ (.tup (Gs.of [(.name 2), (.name 3)])) (.seq (.call true 4 (Es.of [(.var 0)]))) b8_2) (.cons (.ret (.bl true)) (.nil)))
/-- check_laying: 0 setting, 1 thing -/
def b9 : Ss := .cons (.ife (.not (.tru (.call true 8 (Es.of [(.var 0), (.var 1)])))) (.cons (.raise "BadRow" ["at"] (Es.of [(.int (-1))])) (.nil)) (.nil)) (.cons (.ret (.b1 .len (.var 1))) (.nil))
/-- plain_laying: 0 setting -/
def b10 : Ss := .cons (.ret (.tupRg (.b1 .len (.idx (.var 0) (.int 2))))) (.nil)
/-- laid: 0 row, 1 laying, 2 place -/
def b11_1 : E := (.idx (.var 0) (.var 2))
def b11 : Ss := .cons (.ret (.b1 .tup (.lc (.name 2) (.seq (.var 1)) .yes b11_1 [2]))) (.nil)
/-- composed: 0 one, 1 other, 2 place -/
def b12_1 : E := (.idx (.var 0) (.var 2))
def b12 : Ss := .cons (.ret (.b1 .tup (.lc (.name 2) (.seq (.var 1)) .yes b12_1 [2]))) (.nil)
/-- with_parts: 0 setting, 1 parts, 2 found, 3 _, 4 part, 5 told, 6 place, 7 source -/
def b13_1 : Ss := .cons (.seti (.var 2) (.var 6) (.var 7)) (.nil)
def b13_2 : Ss := .cons (.for_ (.tup (Gs.of [(.name 6), (.name 7)])) (.zip (.var 4) (.var 5)) b13_1) (.nil)
def b13 : Ss := .cons (.asg (.name 2) (.newLst (.call true 10 (Es.of [(.var 0)])))) (.cons (.for_ (.tup (Gs.of [(.tup (Gs.of [(.name 3), (.name 4)])), (.name 5)])) (.zip (.call true 4 (Es.of [(.var 0)])) (.var 1)) b13_2) (.cons (.ret (.b1 .tup (.var 2))) (.nil)))
/-- Table.__init__: 0 self, 1 setting, 2 row -/
def b14 : Ss := .cons (.sfld "Table" (.var 0) "_setting" (.var 1)) (.cons (.sfld "Table" (.var 0) "_row" (.var 2)) (.cons (.sfld "Table" (.var 0) "_layings" (.newL (Es.of [(.call true 10 (Es.of [(.var 1)]))]))) (.nil)))
/-- Table._lay: 0 self, 1 laying -/
def b15 : Ss := .cons (.expr (.app (.fld (.var 0) "_layings") (.call true 12 (Es.of [(.idx (.fld (.var 0) "_layings") (.int (-1))), (.var 1)])))) (.nil)
/-- Table.lay: 0 self, 1 laying -/
def b16 : Ss := .cons (.ife (.not (.tru (.call true 8 (Es.of [(.fld (.var 0) "_setting"), (.var 1)])))) (.cons (.raise "BadRow" ["at"] (Es.of [(.int (-1))])) (.nil)) (.nil)) (.cons (.expr (.meth "Table" "_lay" 15 (.var 0) (Es.of [(.var 1)]))) (.nil))
/-- Table.exchange: 0 self, 1 one, 2 other, 3 trays, 4 told, 5 place -/
def b17_1 : E := (.idx (.var 5) (.int 1))
def b17 : Ss := .cons (.asg (.name 3) (.lc (.name 5) (.seq (.idx (.fld (.var 0) "_setting") (.int 2))) .yes b17_1 [5])) (.cons (.ife (.val (.cmp .ne (.idx (.var 3) (.var 1)) (.idx (.var 3) (.var 2)))) (.cons (.raise "BadStep" ["word"] (Es.of [(.str "tray")])) (.nil)) (.nil)) (.cons (.ife (.val (.cmp .ne (.idx (.idx (.idx (.fld (.var 0) "_setting") (.int 1)) (.idx (.var 3) (.var 1))) (.int 1)) (.str "any"))) (.cons (.raise "BadStep" ["word"] (Es.of [(.str "manner")])) (.nil)) (.nil)) (.cons (.asg (.name 4) (.newLst (.call true 10 (Es.of [(.fld (.var 0) "_setting")])))) (.cons (.setp (.var 4) (.var 1) (.var 4) (.var 2) (.idx (.var 4) (.var 2)) (.idx (.var 4) (.var 1))) (.cons (.expr (.meth "Table" "_lay" 15 (.var 0) (Es.of [(.b1 .tup (.var 4))]))) (.nil))))))
/-- Table.turn: 0 self, 1 tray, 2 many, 3 trays, 4 manner, 5 part, 6 layings, 7 parts, 8 _, 9 own -/
def b18_1 : E := (.b1 .lst (.var 9))
def b18 : Ss := .cons (.asg (.name 3) (.call true 4 (Es.of [(.fld (.var 0) "_setting")]))) (.cons (.asg (.tup (Gs.of [(.name 4), (.name 5)])) (.idx (.var 3) (.var 1))) (.cons (.ife (.val (.cmp .notin (.var 4) (.tup (Es.of [(.str "ring"), (.str "turn")])))) (.cons (.raise "BadStep" ["word"] (Es.of [(.str "manner")])) (.nil)) (.nil)) (.cons (.asg (.name 6) (.call true 6 (Es.of [(.var 4), (.var 5)]))) (.cons (.asg (.name 7) (.newLc (.tup (Gs.of [(.name 8), (.name 9)])) (.seq (.var 3)) .yes b18_1 [8, 9])) (.cons (.seti (.var 7) (.var 1) (.idx (.var 6) (.bin .mod (.var 2) (.b1 .len (.var 6))))) (.frz 7 (.cons (.expr (.meth "Table" "_lay" 15 (.var 0) (Es.of [(.call true 13 (Es.of [(.fld (.var 0) "_setting"), (.var 7)]))]))) (.nil))))))))
/-- Table.back: 0 self -/
def b19 : Ss := .cons (.ife (.val (.cmp .eq (.b1 .len (.fld (.var 0) "_layings")) (.int 1))) (.cons (.raise "NoSuch" ["word", "name"] (Es.of [(.str "deed"), (.str "")])) (.nil)) (.nil)) (.cons (.expr (.pop (.fld (.var 0) "_layings"))) (.nil))
/-- Table.row: 0 self -/
def b20 : Ss := .cons (.ret (.call true 11 (Es.of [(.fld (.var 0) "_row"), (.idx (.fld (.var 0) "_layings") (.int (-1)))]))) (.nil)
/-- Table.laying: 0 self -/
def b21 : Ss := .cons (.ret (.idx (.fld (.var 0) "_layings") (.int (-1)))) (.nil)
/-- Table.deeds: 0 self -/
def b22 : Ss := .cons (.ret (.bin .sub (.b1 .len (.fld (.var 0) "_layings")) (.int 1))) (.nil)
def PG : Nat → Option Df
  | 0 => some ⟨1, 1, b0⟩
  | 1 => some ⟨2, 2, b1⟩
  | 2 => some ⟨1, 2, b2⟩
  | 3 => some ⟨2, 4, b3⟩
  | 4 => some ⟨1, 3, b4⟩
  | 5 => some ⟨2, 3, b5⟩
  | 6 => some ⟨2, 3, b6⟩
  | 7 => some ⟨3, 3, b7⟩
  | 8 => some ⟨2, 5, b8⟩
  | 9 => some ⟨2, 2, b9⟩
  | 10 => some ⟨1, 1, b10⟩
  | 11 => some ⟨2, 3, b11⟩
  | 12 => some ⟨2, 3, b12⟩
  | 13 => some ⟨2, 8, b13⟩
  | 14 => some ⟨3, 3, b14⟩
  | 15 => some ⟨2, 2, b15⟩
  | 16 => some ⟨2, 2, b16⟩
  | 17 => some ⟨3, 6, b17⟩
  | 18 => some ⟨3, 10, b18⟩
  | 19 => some ⟨1, 1, b19⟩
  | 20 => some ⟨1, 1, b20⟩
  | 21 => some ⟨1, 1, b21⟩
  | 22 => some ⟨1, 1, b22⟩
  | _ => none
/-- a program with these functions -/
structure Ext (P : Pr) : Prop where
  df : ∀ i, i < 500 → P.df i = PG i
theorem go0 {P : Pr} (hP : Ext P) (k : Nat) (a : D) (s : Sto) : run P WF (k + 1) 0 [a] s = fin (exSs (CC P WF k s.length) b0 [some a] s) := go (f := ⟨1, 1, b0⟩) (hP.df 0 (by decide)) rfl
theorem goX0 {P : Pr} (hP : Ext P) (k : Nat) (a : D) (s : Sto) : runX P WF (k + 1) 0 [a] s = finX (exSs (CC P WF k s.length) b0 [some a] s) := goX (f := ⟨1, 1, b0⟩) (hP.df 0 (by decide)) rfl
theorem go1 {P : Pr} (hP : Ext P) (k : Nat) (a b : D) (s : Sto) : run P WF (k + 1) 1 [a, b] s = fin (exSs (CC P WF k s.length) b1 [some a, some b] s) := go (f := ⟨2, 2, b1⟩) (hP.df 1 (by decide)) rfl
theorem goX1 {P : Pr} (hP : Ext P) (k : Nat) (a b : D) (s : Sto) : runX P WF (k + 1) 1 [a, b] s = finX (exSs (CC P WF k s.length) b1 [some a, some b] s) := goX (f := ⟨2, 2, b1⟩) (hP.df 1 (by decide)) rfl
theorem go2 {P : Pr} (hP : Ext P) (k : Nat) (a : D) (s : Sto) : run P WF (k + 1) 2 [a] s = fin (exSs (CC P WF k s.length) b2 [some a, none] s) := go (f := ⟨1, 2, b2⟩) (hP.df 2 (by decide)) rfl
theorem goX2 {P : Pr} (hP : Ext P) (k : Nat) (a : D) (s : Sto) : runX P WF (k + 1) 2 [a] s = finX (exSs (CC P WF k s.length) b2 [some a, none] s) := goX (f := ⟨1, 2, b2⟩) (hP.df 2 (by decide)) rfl
theorem go3 {P : Pr} (hP : Ext P) (k : Nat) (a b : D) (s : Sto) : run P WF (k + 1) 3 [a, b] s = fin (exSs (CC P WF k s.length) b3 [some a, some b, none, none] s) := go (f := ⟨2, 4, b3⟩) (hP.df 3 (by decide)) rfl
theorem goX3 {P : Pr} (hP : Ext P) (k : Nat) (a b : D) (s : Sto) : runX P WF (k + 1) 3 [a, b] s = finX (exSs (CC P WF k s.length) b3 [some a, some b, none, none] s) := goX (f := ⟨2, 4, b3⟩) (hP.df 3 (by decide)) rfl
theorem go4 {P : Pr} (hP : Ext P) (k : Nat) (a : D) (s : Sto) : run P WF (k + 1) 4 [a] s = fin (exSs (CC P WF k s.length) b4 [some a, none, none] s) := go (f := ⟨1, 3, b4⟩) (hP.df 4 (by decide)) rfl
theorem goX4 {P : Pr} (hP : Ext P) (k : Nat) (a : D) (s : Sto) : runX P WF (k + 1) 4 [a] s = finX (exSs (CC P WF k s.length) b4 [some a, none, none] s) := goX (f := ⟨1, 3, b4⟩) (hP.df 4 (by decide)) rfl
theorem go5 {P : Pr} (hP : Ext P) (k : Nat) (a b : D) (s : Sto) : run P WF (k + 1) 5 [a, b] s = fin (exSs (CC P WF k s.length) b5 [some a, some b, none] s) := go (f := ⟨2, 3, b5⟩) (hP.df 5 (by decide)) rfl
theorem goX5 {P : Pr} (hP : Ext P) (k : Nat) (a b : D) (s : Sto) : runX P WF (k + 1) 5 [a, b] s = finX (exSs (CC P WF k s.length) b5 [some a, some b, none] s) := goX (f := ⟨2, 3, b5⟩) (hP.df 5 (by decide)) rfl
theorem go6 {P : Pr} (hP : Ext P) (k : Nat) (a b : D) (s : Sto) : run P WF (k + 1) 6 [a, b] s = fin (exSs (CC P WF k s.length) b6 [some a, some b, none] s) := go (f := ⟨2, 3, b6⟩) (hP.df 6 (by decide)) rfl
theorem goX6 {P : Pr} (hP : Ext P) (k : Nat) (a b : D) (s : Sto) : runX P WF (k + 1) 6 [a, b] s = finX (exSs (CC P WF k s.length) b6 [some a, some b, none] s) := goX (f := ⟨2, 3, b6⟩) (hP.df 6 (by decide)) rfl
theorem go7 {P : Pr} (hP : Ext P) (k : Nat) (a b c : D) (s : Sto) : run P WF (k + 1) 7 [a, b, c] s = fin (exSs (CC P WF k s.length) b7 [some a, some b, some c] s) := go (f := ⟨3, 3, b7⟩) (hP.df 7 (by decide)) rfl
theorem goX7 {P : Pr} (hP : Ext P) (k : Nat) (a b c : D) (s : Sto) : runX P WF (k + 1) 7 [a, b, c] s = finX (exSs (CC P WF k s.length) b7 [some a, some b, some c] s) := goX (f := ⟨3, 3, b7⟩) (hP.df 7 (by decide)) rfl
theorem go8 {P : Pr} (hP : Ext P) (k : Nat) (a b : D) (s : Sto) : run P WF (k + 1) 8 [a, b] s = fin (exSs (CC P WF k s.length) b8 [some a, some b, none, none, none] s) := go (f := ⟨2, 5, b8⟩) (hP.df 8 (by decide)) rfl
theorem goX8 {P : Pr} (hP : Ext P) (k : Nat) (a b : D) (s : Sto) : runX P WF (k + 1) 8 [a, b] s = finX (exSs (CC P WF k s.length) b8 [some a, some b, none, none, none] s) := goX (f := ⟨2, 5, b8⟩) (hP.df 8 (by decide)) rfl
theorem go9 {P : Pr} (hP : Ext P) (k : Nat) (a b : D) (s : Sto) : run P WF (k + 1) 9 [a, b] s = fin (exSs (CC P WF k s.length) b9 [some a, some b] s) := go (f := ⟨2, 2, b9⟩) (hP.df 9 (by decide)) rfl
theorem goX9 {P : Pr} (hP : Ext P) (k : Nat) (a b : D) (s : Sto) : runX P WF (k + 1) 9 [a, b] s = finX (exSs (CC P WF k s.length) b9 [some a, some b] s) := goX (f := ⟨2, 2, b9⟩) (hP.df 9 (by decide)) rfl
theorem go10 {P : Pr} (hP : Ext P) (k : Nat) (a : D) (s : Sto) : run P WF (k + 1) 10 [a] s = fin (exSs (CC P WF k s.length) b10 [some a] s) := go (f := ⟨1, 1, b10⟩) (hP.df 10 (by decide)) rfl
theorem goX10 {P : Pr} (hP : Ext P) (k : Nat) (a : D) (s : Sto) : runX P WF (k + 1) 10 [a] s = finX (exSs (CC P WF k s.length) b10 [some a] s) := goX (f := ⟨1, 1, b10⟩) (hP.df 10 (by decide)) rfl
theorem go11 {P : Pr} (hP : Ext P) (k : Nat) (a b : D) (s : Sto) : run P WF (k + 1) 11 [a, b] s = fin (exSs (CC P WF k s.length) b11 [some a, some b, none] s) := go (f := ⟨2, 3, b11⟩) (hP.df 11 (by decide)) rfl
theorem goX11 {P : Pr} (hP : Ext P) (k : Nat) (a b : D) (s : Sto) : runX P WF (k + 1) 11 [a, b] s = finX (exSs (CC P WF k s.length) b11 [some a, some b, none] s) := goX (f := ⟨2, 3, b11⟩) (hP.df 11 (by decide)) rfl
theorem go12 {P : Pr} (hP : Ext P) (k : Nat) (a b : D) (s : Sto) : run P WF (k + 1) 12 [a, b] s = fin (exSs (CC P WF k s.length) b12 [some a, some b, none] s) := go (f := ⟨2, 3, b12⟩) (hP.df 12 (by decide)) rfl
theorem goX12 {P : Pr} (hP : Ext P) (k : Nat) (a b : D) (s : Sto) : runX P WF (k + 1) 12 [a, b] s = finX (exSs (CC P WF k s.length) b12 [some a, some b, none] s) := goX (f := ⟨2, 3, b12⟩) (hP.df 12 (by decide)) rfl
theorem go13 {P : Pr} (hP : Ext P) (k : Nat) (a b : D) (s : Sto) : run P WF (k + 1) 13 [a, b] s = fin (exSs (CC P WF k s.length) b13 [some a, some b, none, none, none, none, none, none] s) := go (f := ⟨2, 8, b13⟩) (hP.df 13 (by decide)) rfl
theorem goX13 {P : Pr} (hP : Ext P) (k : Nat) (a b : D) (s : Sto) : runX P WF (k + 1) 13 [a, b] s = finX (exSs (CC P WF k s.length) b13 [some a, some b, none, none, none, none, none, none] s) := goX (f := ⟨2, 8, b13⟩) (hP.df 13 (by decide)) rfl
theorem go14 {P : Pr} (hP : Ext P) (k : Nat) (a b c : D) (s : Sto) : run P WF (k + 1) 14 [a, b, c] s = fin (exSs (CC P WF k s.length) b14 [some a, some b, some c] s) := go (f := ⟨3, 3, b14⟩) (hP.df 14 (by decide)) rfl
theorem goX14 {P : Pr} (hP : Ext P) (k : Nat) (a b c : D) (s : Sto) : runX P WF (k + 1) 14 [a, b, c] s = finX (exSs (CC P WF k s.length) b14 [some a, some b, some c] s) := goX (f := ⟨3, 3, b14⟩) (hP.df 14 (by decide)) rfl
theorem go15 {P : Pr} (hP : Ext P) (k : Nat) (a b : D) (s : Sto) : run P WF (k + 1) 15 [a, b] s = fin (exSs (CC P WF k s.length) b15 [some a, some b] s) := go (f := ⟨2, 2, b15⟩) (hP.df 15 (by decide)) rfl
theorem goX15 {P : Pr} (hP : Ext P) (k : Nat) (a b : D) (s : Sto) : runX P WF (k + 1) 15 [a, b] s = finX (exSs (CC P WF k s.length) b15 [some a, some b] s) := goX (f := ⟨2, 2, b15⟩) (hP.df 15 (by decide)) rfl
theorem go16 {P : Pr} (hP : Ext P) (k : Nat) (a b : D) (s : Sto) : run P WF (k + 1) 16 [a, b] s = fin (exSs (CC P WF k s.length) b16 [some a, some b] s) := go (f := ⟨2, 2, b16⟩) (hP.df 16 (by decide)) rfl
theorem goX16 {P : Pr} (hP : Ext P) (k : Nat) (a b : D) (s : Sto) : runX P WF (k + 1) 16 [a, b] s = finX (exSs (CC P WF k s.length) b16 [some a, some b] s) := goX (f := ⟨2, 2, b16⟩) (hP.df 16 (by decide)) rfl
theorem go17 {P : Pr} (hP : Ext P) (k : Nat) (a b c : D) (s : Sto) : run P WF (k + 1) 17 [a, b, c] s = fin (exSs (CC P WF k s.length) b17 [some a, some b, some c, none, none, none] s) := go (f := ⟨3, 6, b17⟩) (hP.df 17 (by decide)) rfl
theorem goX17 {P : Pr} (hP : Ext P) (k : Nat) (a b c : D) (s : Sto) : runX P WF (k + 1) 17 [a, b, c] s = finX (exSs (CC P WF k s.length) b17 [some a, some b, some c, none, none, none] s) := goX (f := ⟨3, 6, b17⟩) (hP.df 17 (by decide)) rfl
theorem go18 {P : Pr} (hP : Ext P) (k : Nat) (a b c : D) (s : Sto) : run P WF (k + 1) 18 [a, b, c] s = fin (exSs (CC P WF k s.length) b18 [some a, some b, some c, none, none, none, none, none, none, none] s) := go (f := ⟨3, 10, b18⟩) (hP.df 18 (by decide)) rfl
theorem goX18 {P : Pr} (hP : Ext P) (k : Nat) (a b c : D) (s : Sto) : runX P WF (k + 1) 18 [a, b, c] s = finX (exSs (CC P WF k s.length) b18 [some a, some b, some c, none, none, none, none, none, none, none] s) := goX (f := ⟨3, 10, b18⟩) (hP.df 18 (by decide)) rfl
theorem go19 {P : Pr} (hP : Ext P) (k : Nat) (a : D) (s : Sto) : run P WF (k + 1) 19 [a] s = fin (exSs (CC P WF k s.length) b19 [some a] s) := go (f := ⟨1, 1, b19⟩) (hP.df 19 (by decide)) rfl
theorem goX19 {P : Pr} (hP : Ext P) (k : Nat) (a : D) (s : Sto) : runX P WF (k + 1) 19 [a] s = finX (exSs (CC P WF k s.length) b19 [some a] s) := goX (f := ⟨1, 1, b19⟩) (hP.df 19 (by decide)) rfl
theorem go20 {P : Pr} (hP : Ext P) (k : Nat) (a : D) (s : Sto) : run P WF (k + 1) 20 [a] s = fin (exSs (CC P WF k s.length) b20 [some a] s) := go (f := ⟨1, 1, b20⟩) (hP.df 20 (by decide)) rfl
theorem goX20 {P : Pr} (hP : Ext P) (k : Nat) (a : D) (s : Sto) : runX P WF (k + 1) 20 [a] s = finX (exSs (CC P WF k s.length) b20 [some a] s) := goX (f := ⟨1, 1, b20⟩) (hP.df 20 (by decide)) rfl
theorem go21 {P : Pr} (hP : Ext P) (k : Nat) (a : D) (s : Sto) : run P WF (k + 1) 21 [a] s = fin (exSs (CC P WF k s.length) b21 [some a] s) := go (f := ⟨1, 1, b21⟩) (hP.df 21 (by decide)) rfl
theorem goX21 {P : Pr} (hP : Ext P) (k : Nat) (a : D) (s : Sto) : runX P WF (k + 1) 21 [a] s = finX (exSs (CC P WF k s.length) b21 [some a] s) := goX (f := ⟨1, 1, b21⟩) (hP.df 21 (by decide)) rfl
theorem go22 {P : Pr} (hP : Ext P) (k : Nat) (a : D) (s : Sto) : run P WF (k + 1) 22 [a] s = fin (exSs (CC P WF k s.length) b22 [some a] s) := go (f := ⟨1, 1, b22⟩) (hP.df 22 (by decide)) rfl
theorem goX22 {P : Pr} (hP : Ext P) (k : Nat) (a : D) (s : Sto) : runX P WF (k + 1) 22 [a] s = finX (exSs (CC P WF k s.length) b22 [some a] s) := goX (f := ⟨1, 1, b22⟩) (hP.df 22 (by decide)) rfl
end PG

/-! The program's functions on typed data, part B: settings, layings. -/
namespace PG
open PySem Fw Mx

def _root_.Mx.Stg.n (S : Stg) : Nat := S.pl.length
def _root_.Mx.Stg.tray (S : Stg) (i : Nat) : Nat := (S.pl[i]?.map (·.2)).getD 0
def _root_.Mx.Stg.places (S : Stg) (t : Nat) : List Nat := (List.range S.n).filter fun i => decide (S.tray i = t)
def _root_.Mx.Stg.man (S : Stg) (t : Nat) : Str := (S.tr[t]?.map (·.2)).getD Str.empty
structure _root_.Mx.Stg.fine (S : Stg) : Prop where
  pl : S.pl.length ≤ 1000
  tr : S.tr.length ≤ 1000
  nm : S.nm.length ≤ 1000
theorem ok_fine {S : Stg} {most : Nat} (h : S.ok most) : S.fine := by
  refine ⟨by have := h.p8; omega, by have := h.t3; omega, ?_⟩
  have := h.n5
  split at this
  · omega
  · split at this <;> omega
def eM (ms : List Nat) : D := .tup (ms.map eN)
def eL (ms : List Nat) : D := .lst (ms.map eN)
@[simp] theorem cl_N (n : Nat) : (eN n).cl = true := rfl
@[simp] theorem cl_M (ms : List Nat) : (eM ms).cl = true := by simp only [eM, D.cl]; exact clL_map cl_N ms
@[simp] theorem cl_L (ms : List Nat) : (eL ms).cl = true := by simp only [eL, D.cl]; exact clL_map cl_N ms
@[simp] theorem cl_P (p : Str × Nat) : (eP p).cl = true := by simp [eP, D.cl, clL]
@[simp] theorem cl_T (p : Str × Str) : (eT p).cl = true := by simp [eT, D.cl, clL]
@[simp] theorem cl_S (S : Stg) : S.d.cl = true := by
  simp only [Stg.d, D.cl, clL, Bool.and_true, Bool.and_eq_true]
  exact ⟨clL_map (fun _ => rfl) _, clL_map cl_T _, clL_map cl_P _⟩
@[simp] theorem S0 (S : Stg) (s : Sto) : atD s S.d (.int 0) = some (.tup (S.nm.map .str)) := rfl
@[simp] theorem S1 (S : Stg) (s : Sto) : atD s S.d (.int 1) = some (.tup (S.tr.map eT)) := rfl
@[simp] theorem S2 (S : Stg) (s : Sto) : atD s S.d (.int 2) = some (.tup (S.pl.map eP)) := rfl
@[simp] theorem P0 (p : Str × Nat) (s : Sto) : atD s (eP p) (.int 0) = some (.str p.1) := rfl
@[simp] theorem P1 (p : Str × Nat) (s : Sto) : atD s (eP p) (.int 1) = some (.int p.2) := rfl
@[simp] theorem T0 (p : Str × Str) (s : Sto) : atD s (eT p) (.int 0) = some (.str p.1) := rfl
@[simp] theorem T1 (p : Str × Str) (s : Sto) : atD s (eT p) (.int 1) = some (.str p.2) := rfl
theorem map_getD {l : List Nat} : l.map eN = (List.range l.length).map fun i => eN (getn l i) := by
  apply List.ext_getElem?
  intro i
  rw [List.getElem?_map, List.getElem?_map]
  by_cases h : i < l.length
  · rw [List.getElem?_range h, List.getElem?_eq_getElem h]; simp [getn_eq h]
  · rw [List.getElem?_eq_none (Nat.le_of_not_lt h), List.getElem?_eq_none (by rw [List.length_range]; omega)]; rfl

theorem pl_idx (t : Nat) : ∀ (l : List (Str × Nat)) (k : Nat), ((l.zipIdx k).filterMap fun x => if x.1.2 = t then some (eN x.2) else none) = ((List.range l.length).filter fun i => decide ((l[i]?.map (·.2)).getD 0 = t)).map fun i => eN (k + i)
  | [], k => rfl
  | p :: l, k => by
    have ih := pl_idx t l (k + 1)
    rw [List.zipIdx_cons, List.length_cons, List.range_succ_eq_map, List.filter_cons, List.filter_map, List.filterMap_cons]
    have e : (fun i => eN (k + 1 + i)) = ((fun i => eN (k + i)) ∘ Nat.succ) := by
      funext i; show eN _ = eN _; congr 1; omega
    have e2 : ((fun i => decide (((p :: l)[i]?.map (·.2)).getD 0 = t)) ∘ Nat.succ) = fun i => decide ((l[i]?.map (·.2)).getD 0 = t) := by
      funext i; simp
    by_cases h : p.2 = t
    · simp [h, ih, e, e2]
    · simp [h, ih, e, e2]
theorem places_eq (S : Stg) (t : Nat) : (S.pl.zipIdx.filterMap fun x => if x.1.2 = t then some (eN x.2) else none) = (S.places t).map eN := by
  rw [pl_idx]
  unfold Stg.places Stg.n Stg.tray
  congr 1
  funext i
  rw [Nat.zero_add]
theorem plain_mem {ds : List D} (h : plainL ds = true) : ∀ d ∈ ds, Mx.plain d = true := by
  induction ds with
  | nil => simp
  | cons x r ih =>
    simp only [plainL, Bool.and_eq_true] at h
    intro d hd
    rcases List.mem_cons.mp hd with rfl | hd
    · exact h.1
    · exact ih h.2 d hd
theorem man_get (S : Stg) {i : Nat} (h : i < S.tr.length) : S.man i = S.tr[i].2 := by
  unfold Stg.man; rw [List.getElem?_eq_getElem h]; rfl
/-- a ring turned -/
def rotN (l : List Nat) (m : Nat) : List Nat := (List.range l.length).map fun i => getn l ((i + m) % l.length)
theorem eL_int (l : List Nat) : eL l = lstI (l.map Int.ofNat) := by
  simp only [eL, lstI, List.map_map]; rfl
theorem eM_int (l : List Nat) : eM l = .tup ((l.map Int.ofNat).map .int) := by
  simp only [eM, List.map_map]; rfl
theorem rot_len (l : List Nat) (m : Nat) : (rotN l m).length = l.length := by simp [rotN]
/-- the layings of a tray alone -/
def ownL (m : Str) (l : List Nat) : List (List Nat) := if m = "ring" ∧ l ≠ [] then (List.range l.length).map (rotN l) else if m = "turn" ∧ 1 < l.length then [l, l.reverse] else [l]
/-- is it a laying of this tray -/
def isOwn (m : Str) (l : List Nat) (a : List Int) : Bool :=
  if m = "any" then decide ((a.mergeSort fun x y => decide (x ≤ y)) = l.map Int.ofNat) else decide (a ∈ (ownL m l).map fun r => r.map Int.ofNat)
section
variable {P : Pr} (hP : Ext P) {k : Nat} (b : Nat) (s : Sto)
include hP
/-- a whole number, no truth value -/
def isInt : D → Bool
  | .int _ => true
  | _ => false
theorem r0 (hk : 1 ≤ k) {d : D} (hd : Mx.plain d = true) : (CC P WF k b).run true 0 [d] s = some (.bl (isInt d), s) := by
  obtain ⟨k, rfl⟩ := Nat.exists_eq_add_of_le' hk
  refine pure_call (by simp [clL, plain_cl d hd]) (s' := []) ?_ rfl b s
  rw [go0 hP]
  cases d with
  | non => simp [b0, isID, isInt]
  | bl u => simp [b0, isInt]
  | int u => simp [b0, isInt]
  | str u => simp [b0, isInt]
  | scr u => simp [Mx.plain] at hd
  | obj u => simp [Mx.plain] at hd
  | tup u => simp [b0, isInt]
  | lst u => simp [b0, isInt]
def isTup : D → Bool
  | .tup _ => true
  | _ => false
theorem r1_no (hk : 1 ≤ k) {d : D} (hd : Mx.plain d = true) (ht : isTup d = false) (n : Nat) : (CC P WF k b).run true 1 [d, .int n] s = some (.bl false, s) := by
  obtain ⟨k, rfl⟩ := Nat.exists_eq_add_of_le' hk
  refine pure_call (by simp [clL, plain_cl d hd, D.cl]) (s' := []) ?_ rfl b s
  rw [go1 hP]
  cases d with
  | non => simp [b1, isID]
  | bl u => simp [b1]
  | int u => simp [b1]
  | str u => simp [b1]
  | scr u => simp [Mx.plain] at hd
  | obj u => simp [Mx.plain] at hd
  | tup u => simp [isTup] at ht
  | lst u => simp [b1]
theorem r1 (hk : 1 ≤ k) {ds : List D} (hd : plainL ds = true) (n : Nat) : (CC P WF k b).run true 1 [.tup ds, .int n] s = some (.bl (decide (ds.length = n)), s) := by
  obtain ⟨k, rfl⟩ := Nat.exists_eq_add_of_le' hk
  refine pure_call (by simp [clL, D.cl, plain_clL ds hd]) (s' := []) ?_ rfl b s
  rw [go1 hP]
  simp [b1]
theorem r2 (hk : 2 ≤ k) {ds : List D} (hd : plainL ds = true) (hl : ds.length ≤ 1000000) : (CC P WF k b).run true 2 [.tup ds] s = some (.bl (ds.all isInt), s) := by
  obtain ⟨k, rfl⟩ := Nat.exists_eq_add_of_le' (show 1 ≤ k by omega)
  refine pure_call (by simp [clL, D.cl, plain_clL ds hd]) (s' := []) ?_ rfl b s
  rw [go2 hP]
  have e := lc_map (C := CC P WF k 0) (env := [some (.tup ds), none]) (g := .name 1) (t := .yes) (e := b2_1) (own := [1]) (s := []) id (fun x => .bl (isInt x)) ds hl fun x hx => by
    have := r0 hP 0 [] (k := k) (by omega) (plain_mem hd x hx)
    simp [lcF, wipeD, b2_1, Es.of, this]
  rw [List.map_id] at e
  have e2 := bls_map isInt ds
  simp [b2, e, e2]
/-- the places of a tray -/
theorem r3 (hk : 1 ≤ k) {S : Stg} (hS : S.fine) (t : Nat) : (CC P WF k b).run true 3 [S.d, .int t] s = some (eM (S.places t), s) := by
  obtain ⟨k, rfl⟩ := Nat.exists_eq_add_of_le' hk
  refine pure_call (by simp [clL, D.cl]) (s' := []) ?_ (by simp) b s
  rw [go3 hP]
  have e := lc_filter (C := CC P WF k 0) (env := [some S.d, some (.int t), none, none]) (g := .tup (Gs.of [.name 2, .name 3])) (t := b3_2) (e := b3_1) (own := [2, 3]) (s := []) (fun x : (Str × Nat) × Nat => .tup [.int (x.2 : Int), eP x.1]) (fun x => if x.1.2 = t then some (eN x.2) else none) S.pl.zipIdx (by rw [List.length_zipIdx]; have := hS.pl; omega) fun x hx => by
    by_cases h : x.1.2 = t
    · simp [lcF, wipeD, Gs.of, b3_2, b3_1, h, eN]
    · simp [lcF, wipeD, Gs.of, b3_2, b3_1, h]
  have e1 : numD 0 (S.pl.map eP) = S.pl.zipIdx.map fun x => .tup [.int (x.2 : Int), eP x.1] := num_map eP S.pl 0
  rw [places_eq] at e
  simp [b3, enumSrc, seqD, e1, e, eM]
theorem r4 (hk : 2 ≤ k) {S : Stg} (hS : S.fine) : (CC P WF k b).run true 4 [S.d] s = some (.lst ((List.range S.tr.length).map fun t => .tup [.str (S.man t), eM (S.places t)]), s) := by
  obtain ⟨k, rfl⟩ := Nat.exists_eq_add_of_le' (show 1 ≤ k by omega)
  refine pure_call (by simp [clL, D.cl]) (s' := []) ?_ (by simp only [D.cl]; exact clL_map (fun t => by simp [D.cl, clL]) _) b s
  rw [go4 hP]
  have e := lc_map (C := CC P WF k 0) (env := [some S.d, none, none]) (g := .tup (Gs.of [.name 1, .name 2])) (t := .yes) (e := b4_1) (own := [1, 2]) (s := []) (fun x : (Str × Str) × Nat => .tup [.int (x.2 : Int), eT x.1]) (fun x => .tup [.str x.1.2, eM (S.places x.2)]) S.tr.zipIdx (by rw [List.length_zipIdx]; have := hS.tr; omega) fun x hx => by
    have := r3 hP 0 [] (k := k) (by omega) hS x.2
    simp [lcF, wipeD, Gs.of, b4_1, Es.of, this]
  have e1 : numD 0 (S.tr.map eT) = S.tr.zipIdx.map fun x => .tup [.int (x.2 : Int), eT x.1] := num_map eT S.tr 0
  have e2 : (S.tr.zipIdx.map fun x => D.tup [.str x.1.2, eM (S.places x.2)]) = (List.range S.tr.length).map fun t => .tup [.str (S.man t), eM (S.places t)] := by
    apply List.ext_getElem?
    intro i
    rw [List.getElem?_map, List.getElem?_map, List.getElem?_zipIdx]
    by_cases h : i < S.tr.length
    · rw [List.getElem?_range h, List.getElem?_eq_getElem h]
      simp [man_get S h]
    · rw [List.getElem?_eq_none (Nat.le_of_not_lt h), List.getElem?_eq_none (by rw [List.length_range]; omega)]; rfl
  rw [e2] at e
  simp [b4, enumSrc, seqD, e1, e]
theorem r5 (hk : 1 ≤ k) {l : List Nat} (hl : l.length ≤ 1000) (m : Nat) : (CC P WF k b).run true 5 [eM l, .int m] s = some (eL (rotN l m), s) := by
  obtain ⟨k, rfl⟩ := Nat.exists_eq_add_of_le' hk
  refine pure_call (by simp [clL, D.cl]) (s' := []) ?_ (by simp) b s
  rw [go5 hP]
  have e := lc_map (C := CC P WF k 0) (env := [some (eM l), some (.int m), none]) (g := .name 2) (t := .yes) (e := b5_1) (own := [2]) (s := []) eN (fun i => eN (getn l ((i + m) % l.length))) (List.range l.length) (by rw [List.length_range]; omega) fun i hi => by
    have hi := List.mem_range.mp hi
    have h0 : 0 < l.length := by omega
    obtain ⟨r, hr⟩ : ∃ r, r = (i + m) % l.length := ⟨_, rfl⟩
    have hm : r < l.length := by rw [hr]; exact Nat.mod_lt (i + m) h0
    have e1 := modN (i + m) h0
    rw [Int.natCast_add, ← hr] at e1
    have e3 : ∀ s, atD s (eM l) (.int (r : Int)) = some (eN (getn l r)) := fun s => by
      show L2.atI (l.map eN) _ = _
      rw [atI_ofNat, List.getElem?_map, List.getElem?_eq_getElem hm, ← getn_eq hm]; rfl
    have e4 : ∀ s, lenD s (eM l) = some l.length := fun s => by simp [eM]
    rw [← hr]
    simp [lcF, wipeD, b5_1, eN, e1, e4]
    exact e3 []
  have e4 : ∀ s, lenD s (eM l) = some l.length := fun s => by simp [eM]
  have h3 : (l.length : Int) ≤ 1000000 := by omega
  have h4 : -1000000 ≤ (l.length : Int) := by omega
  have e' : srcGo _ (.vals ((List.range l.length).map fun (i : Nat) => D.int (i : Int))) _ = _ := e
  simp [b5, e4, rg_nat, e', h3, h4, eL, rotN]
theorem r6 (hk : 2 ≤ k) {l : List Nat} (hl : l.length ≤ 1000) (m : Str) : (CC P WF k b).run true 6 [.str m, eM l] s = some (.lst ((ownL m l).map eL), s) := by
  obtain ⟨k, rfl⟩ := Nat.exists_eq_add_of_le' (show 1 ≤ k by omega)
  refine pure_call (by simp [clL, D.cl]) (s' := []) ?_ (by simp only [D.cl]; exact clL_map cl_L _) b s
  rw [go6 hP]
  have e := lc_map (C := CC P WF k 0) (env := [some (.str m), some (eM l), none]) (g := .name 2) (t := .yes) (e := b6_1) (own := [2]) (s := []) eN (fun i => eL (rotN l i)) (List.range l.length) (by rw [List.length_range]; omega) fun i hi => by
    have := r5 hP 0 [] (k := k) (by omega) hl i
    simp [lcF, wipeD, b6_1, Es.of, eN, this]
  have e' : srcGo _ (.vals ((List.range l.length).map fun (i : Nat) => D.int (i : Int))) _ = _ := e
  have e4 : ∀ s, lenD s (eM l) = some l.length := fun s => by simp [eM]
  have e5 : ∀ s, truD s (eM l) = some (!l.isEmpty) := fun s => by simp [eM]
  have e6 : ∀ s, listD s (eM l) = some (l.map eN) := fun s => by simp [eM]
  have h3 : (l.length : Int) ≤ 1000000 := by omega
  have h4 : -1000000 ≤ (l.length : Int) := by omega
  have h1 : ((1 : Int) < (l.length : Int)) ↔ 1 < l.length := by omega
  unfold ownL
  by_cases c1 : m = "ring"
  · by_cases c2 : l = []
    · subst c1 c2
      simp [b6, e4, e5, e6, Es.of, eL]
    · have c2' : l.isEmpty = false := by simpa using c2
      rw [if_pos ⟨c1, c2⟩]
      subst c1
      simp [b6, e4, e5, c2', rg_nat, e', h3, h4]
  · by_cases c2 : m = "turn"
    · subst c2
      by_cases c3 : 1 < l.length
      · simp [b6, e4, e5, e6, h1, c3, Es.of, eL]
      · simp [b6, e4, e5, e6, h1, c3, Es.of, eL]
    · simp [b6, c1, c2, e4, e5, e6, Es.of, eL]
theorem r7 (hk : 3 ≤ k) {l : List Nat} (hl : l.length ≤ 1000) (m : Str) {a : List Int} (ha : a.length ≤ 1000) : (CC P WF k b).run true 7 [.str m, eM l, .lst (a.map .int)] s = some (.bl (isOwn m l a), s) := by
  obtain ⟨k, rfl⟩ := Nat.exists_eq_add_of_le' (show 1 ≤ k by omega)
  refine pure_call (by simp [clL, D.cl]; exact clL_map (fun _ => rfl) _) (s' := []) ?_ rfl b s
  rw [go7 hP]
  have e6 : ∀ s, listD s (eM l) = some ((l.map Int.ofNat).map .int) := fun s => by rw [eM_int]; rfl
  have e1 := sort_ints a (by omega)
  have e2 := eq_ints (a.mergeSort fun x y => decide (x ≤ y)) (l.map Int.ofNat)
  have e3 := r6 hP 0 [] (k := k) (by omega) hl m
  have e4 := in_lists a ((ownL m l).map fun r => r.map Int.ofNat)
  have e5 : ((ownL m l).map fun r => r.map Int.ofNat).map lstI = (ownL m l).map eL := by
    rw [List.map_map]; congr 1; funext r; exact (eL_int r).symm
  rw [e5] at e4
  have e4' : evCmp .isin (.lst (a.map .int)) (.lst ((ownL m l).map eL)) = _ := e4
  have e2' : evCmp .eqD (.lst ((a.mergeSort fun x y => decide (x ≤ y)).map .int)) (.lst ((l.map Int.ofNat).map .int)) = _ := e2
  unfold isOwn
  by_cases c : m = "any"
  · subst c
    simp only [b7, exSs_cons, exS_ife, evT_val, evE_cmp, evE_var, evE_str, exS_ret, evE_sort, evE_b1, b1_lst, e6, e1, e2']
    simp [e1, e6, e2', -List.map_map]
  · simp only [b7, exSs_cons, exS_ife, evT_val, evE_cmp, evE_var, evE_str, exS_ret]
    simp [c, Es.of, e3, e4']
end
end PG

/-! The program's functions on typed data, part C: layings. -/
namespace PG
open PySem Fw Mx
def _root_.Mx.Stg.isLay (S : Stg) (a : List Int) : Bool := (List.range S.tr.length).all fun t => isOwn (S.man t) (S.places t) ((S.places t).map fun i => geti a i)
theorem mem_places {S : Stg} {t i : Nat} (h : i ∈ S.places t) : i < S.n := by
  have := (List.mem_filter.mp h).1
  exact List.mem_range.mp this
theorem places_len (S : Stg) (t : Nat) : (S.places t).length ≤ S.n := by
  have := List.length_filter_le (fun i => decide (S.tray i = t)) (List.range S.n)
  rw [List.length_range] at this; exact this
theorem plain_ints (a : List Int) : plainL (a.map .int) = true := by
  induction a with
  | nil => rfl
  | cons x r ih => simp only [List.map_cons, plainL, Mx.plain, ih, Bool.and_self]
section
variable {P : Pr} (hP : Ext P) {k : Nat} (b : Nat) (s : Sto)
include hP
theorem r8_no (hk : 2 ≤ k) (S : Stg) {d : D} (hd : Mx.plain d = true) (ht : isTup d = false) : (CC P WF k b).run true 8 [S.d, d] s = some (.bl false, s) := by
  obtain ⟨k, rfl⟩ := Nat.exists_eq_add_of_le' (show 1 ≤ k by omega)
  refine pure_call (by simp [clL, plain_cl d hd]) (s' := []) ?_ rfl b s
  rw [go8 hP]
  have e1 := r1_no hP 0 [] (k := k) (by omega) hd ht S.pl.length
  simp [b8, Es.of, e1]
theorem r8_len (hk : 2 ≤ k) (S : Stg) {ds : List D} (hd : plainL ds = true) (hl : ds.length ≠ S.n) : (CC P WF k b).run true 8 [S.d, .tup ds] s = some (.bl false, s) := by
  obtain ⟨k, rfl⟩ := Nat.exists_eq_add_of_le' (show 1 ≤ k by omega)
  refine pure_call (by simp [clL, D.cl, plain_clL ds hd]) (s' := []) ?_ rfl b s
  rw [go8 hP]
  have e1 := r1 hP 0 [] (k := k) (by omega) hd S.pl.length
  have hl' : ¬ ds.length = S.pl.length := hl
  simp [b8, Es.of, e1, hl']
theorem r8_bad (hk : 3 ≤ k) {S : Stg} (hS : S.fine) {ds : List D} (hd : plainL ds = true) (hl : ds.length = S.n) (hb : ds.all isInt = false) : (CC P WF k b).run true 8 [S.d, .tup ds] s = some (.bl false, s) := by
  obtain ⟨k, rfl⟩ := Nat.exists_eq_add_of_le' (show 1 ≤ k by omega)
  refine pure_call (by simp [clL, D.cl, plain_clL ds hd]) (s' := []) ?_ rfl b s
  rw [go8 hP]
  have e1 := r1 hP 0 [] (k := k) (by omega) hd S.pl.length
  have hl' : ds.length = S.pl.length := hl
  have e2 := r2 hP 0 [] (k := k) (by omega) hd (by have := hS.pl; omega)
  rw [hb] at e2
  simp [b8, Es.of, e1, hl', e2]
theorem r8 (hk : 4 ≤ k) {S : Stg} (hS : S.fine) {a : List Int} (hl : a.length = S.n) : (CC P WF k b).run true 8 [S.d, .tup (a.map .int)] s = some (.bl (S.isLay a), s) := by
  obtain ⟨k, rfl⟩ := Nat.exists_eq_add_of_le' (show 1 ≤ k by omega)
  refine pure_call (by simp [clL, D.cl, plain_clL _ (plain_ints a)]) (s' := []) ?_ rfl b s
  rw [go8 hP]
  have hn : S.n ≤ 1000 := hS.pl
  have e1 := r1 hP 0 [] (k := k) (by omega) (plain_ints a) S.pl.length
  have hl' : a.length = S.pl.length := hl
  have e2 := r2 hP 0 [] (k := k) (by omega) (plain_ints a) (by simp; omega)
  have e3 := r4 hP 0 [] (k := k) (by omega) hS
  have hi : (a.map D.int).all isInt = true := by
    rw [List.all_eq_true]; intro x hx; obtain ⟨y, _, rfl⟩ := List.mem_map.mp hx; rfl
  rw [hi] at e2
  have lp := forE_find (C := CC P WF k 0) (g := .tup (Gs.of [.name 2, .name 3])) (bd := b8_2) (fun t => .tup [.str (S.man t), eM (S.places t)]) (fun t => isOwn (S.man t) (S.places t) ((S.places t).map fun i => geti a i))
    (fun env => ∃ x y z, env = [some S.d, some (.tup (a.map .int)), x, y, z]) (.bl false) [] (List.range S.tr.length) [some S.d, some (.tup (a.map .int)), none, none, none] ⟨_, _, _, rfl⟩ (by
      rintro t ht _ ⟨x, y, z, rfl⟩
      have f1 := lc_map (C := CC P WF k 0) (env := [some S.d, some (.tup (a.map .int)), some (.str (S.man t)), some (eM (S.places t)), z]) (g := .name 4) (t := .yes) (e := b8_1) (own := [4]) (s := []) eN (fun i => .int (geti a i)) (S.places t) (by have := places_len S t; omega) fun i hi => by
        have hi := mem_places hi
        have := geti_some (l := a) (i := i) (by omega)
        simp [lcF, wipeD, b8_1, eN, this]
      have f2 := r7 hP 0 [] (k := k) (by omega) (l := S.places t) (by have := places_len S t; omega) (S.man t) (a := (S.places t).map fun i => geti a i) (by rw [List.length_map]; have := places_len S t; omega)
      rw [List.map_map] at f2
      have f2' : (CC P WF k 0).run true 7 [.str (S.man t), eM (S.places t), .lst ((S.places t).map fun i => .int (geti a i))] [] = _ := f2
      have f3 : seqSrc [] (eM (S.places t)) = some (.vals ((S.places t).map eN)) := rfl
      refine ⟨[some S.d, some (.tup (a.map .int)), some (.str (S.man t)), some (eM (S.places t)), z], by simp [Gs.of], ?_⟩
      cases hp : isOwn (S.man t) (S.places t) ((S.places t).map fun i => geti a i) with
      | true => 
        rw [hp] at f2'
        exact .inl ⟨rfl, [some S.d, some (.tup (a.map .int)), some (.str (S.man t)), some (eM (S.places t)), z], by simp [b8_2, Es.of, f3, f1, f2'], _, _, _, rfl⟩
      | false =>
        rw [hp] at f2'
        exact .inr ⟨rfl, by simp [b8_2, Es.of, f3, f1, f2']⟩)
  unfold Stg.isLay
  rcases lp with ⟨h, env', h2, _⟩ | ⟨h, h2⟩
  · rw [h]; simp [b8, Es.of, e1, e2, e3, hl', h2]
  · rw [h]; simp [b8, Es.of, e1, e2, e3, hl', h2]
theorem r10 (hk : 1 ≤ k) {S : Stg} (hS : S.fine) : (CC P WF k b).run true 10 [S.d] s = some (eM (List.range S.n), s) := by
  obtain ⟨k, rfl⟩ := Nat.exists_eq_add_of_le' hk
  refine pure_call (by simp [clL]) (s' := []) ?_ (by simp) b s
  rw [go10 hP]
  have h1 : (S.pl.length : Int) ≤ 1000000 := by have := hS.pl; omega
  simp [b10, rg_nat, h1, eM, Stg.n]
  intro _ _; rfl
/-- one behind the other -/
def comp (a c : List Nat) : List Nat := c.map fun i => getn a i
theorem r11 (hk : 1 ≤ k) {a c : List Nat} (hc : c.length ≤ 1000) (h : ∀ i ∈ c, i < a.length) : (CC P WF k b).run true 11 [eM a, eM c] s = some (eM (comp a c), s) := by
  obtain ⟨k, rfl⟩ := Nat.exists_eq_add_of_le' hk
  refine pure_call (by simp [clL]) (s' := []) ?_ (by simp) b s
  rw [go11 hP]
  have e := lc_map (C := CC P WF k 0) (env := [some (eM a), some (eM c), none]) (g := .name 2) (t := .yes) (e := b11_1) (own := [2]) (s := []) eN (fun i => eN (getn a i)) c (by omega) fun i hi => by
    have hi := h i hi
    have : (a.map eN)[i]? = some (eN (getn a i)) := by rw [List.getElem?_map, getn_some hi]; rfl
    have : ∀ s, atD s (eM a) (eN i) = some (eN (getn a i)) := fun s => by show L2.atI (a.map eN) _ = _; rw [atI_ofNat]; exact this
    simp [lcF, wipeD, b11_1, this]
  have f3 : seqSrc [] (eM c) = some (.vals (c.map eN)) := rfl
  have e2 : eM (comp a c) = .tup (c.map fun i => eN (getn a i)) := by simp only [eM, comp, List.map_map]; rfl
  rw [e2]
  simp [b11, f3, e]
theorem r12 (hk : 1 ≤ k) {a c : List Nat} (hc : c.length ≤ 1000) (h : ∀ i ∈ c, i < a.length) : (CC P WF k b).run true 12 [eM a, eM c] s = some (eM (comp a c), s) := by
  obtain ⟨k, rfl⟩ := Nat.exists_eq_add_of_le' hk
  refine pure_call (by simp [clL]) (s' := []) ?_ (by simp) b s
  rw [go12 hP]
  have e := lc_map (C := CC P WF k 0) (env := [some (eM a), some (eM c), none]) (g := .name 2) (t := .yes) (e := b12_1) (own := [2]) (s := []) eN (fun i => eN (getn a i)) c (by omega) fun i hi => by
    have hi := h i hi
    have : (a.map eN)[i]? = some (eN (getn a i)) := by rw [List.getElem?_map, getn_some hi]; rfl
    have : ∀ s, atD s (eM a) (eN i) = some (eN (getn a i)) := fun s => by show L2.atI (a.map eN) _ = _; rw [atI_ofNat]; exact this
    simp [lcF, wipeD, b12_1, this]
  have f3 : seqSrc [] (eM c) = some (.vals (c.map eN)) := rfl
  have e2 : eM (comp a c) = .tup (c.map fun i => eN (getn a i)) := by simp only [eM, comp, List.map_map]; rfl
  rw [e2]
  simp [b12, f3, e]
end
end PG

/-! The program's functions on typed data, part D: parts put together; a Table's methods. -/
namespace PG
open PySem Fw Mx
def setAll (f ps vs : List Nat) : List Nat := (ps.zip vs).foldl (fun f x => f.set x.1 x.2) f
theorem setAll_len (f ps vs : List Nat) : (setAll f ps vs).length = f.length := by
  unfold setAll
  generalize ps.zip vs = l
  induction l generalizing f with
  | nil => rfl
  | cons x l ih => rw [List.foldl_cons, ih, List.length_set]
def withF (S : Stg) (l : List (Nat × List Nat)) (f : List Nat) : List Nat := l.foldl (fun f x => setAll f (S.places x.1) x.2) f
theorem withF_len (S : Stg) (l : List (Nat × List Nat)) (f : List Nat) : (withF S l f).length = f.length := by
  unfold withF
  induction l generalizing f with
  | nil => rfl
  | cons x l ih => rw [List.foldl_cons, ih, setAll_len]
def withP (S : Stg) (parts : List (List Nat)) : List Nat := withF S ((List.range S.tr.length).zip parts) (List.range S.n)
theorem fold_len (l : List (Nat × Nat)) (f : List Nat) : (l.foldl (fun f x => f.set x.1 x.2) f).length = f.length := by
  induction l generalizing f with
  | nil => rfl
  | cons x l ih => rw [List.foldl_cons, ih, List.length_set]
@[simp] theorem ixN_nat {n i : Nat} (h : i < n) : L2.ixN n (i : Int) = some i := by
  unfold L2.ixN
  rw [if_pos (by omega), if_pos (by omega)]; rfl
theorem map_set {l : List Nat} {i v : Nat} : (l.map eN).set i (eN v) = (l.set i v).map eN := by rw [List.map_set]
section
variable {P : Pr} (hP : Ext P) {k : Nat} (b : Nat) (s : Sto)
include hP
omit hP in
theorem with_in (C : Cc) (u v : Option D) (x3 x4 x5 : Option D) (f : List Nat) (ps vs : List Nat) (h : ∀ p ∈ ps, p < f.length) (x6 x7 : Option D) : ∃ x6' x7', forE C (.tup (Gs.of [.name 6, .name 7])) b13_1 (zp (ps.map eN) (vs.map eN)) [u, v, some (.obj 0), x3, x4, x5, x6, x7] [some (.lst (f.map eN))] = some (.nx [u, v, some (.obj 0), x3, x4, x5, x6', x7'] [some (.lst ((setAll f ps vs).map eN))]) := by
  rw [zp_map]
  obtain ⟨env', s', h1, x6', x7', rfl, rfl⟩ := forE_inv (C := C) (g := .tup (Gs.of [.name 6, .name 7])) (b := b13_1) (env := [u, v, some (.obj 0), x3, x4, x5, x6, x7]) (s := [some (.lst (f.map eN))]) (fun x : Nat × Nat => D.tup [eN x.1, eN x.2])
    (fun p env s => ∃ x6 x7, env = [u, v, some (.obj 0), x3, x4, x5, x6, x7] ∧ s = [some (.lst ((p.foldl (fun f x => f.set x.1 x.2) f).map eN))]) (ps.zip vs) ⟨x6, x7, rfl, rfl⟩ (by
      rintro p ⟨i, w⟩ q _ _ hl ⟨x6, x7, rfl, rfl⟩
      have hi : i < f.length := h i (List.of_mem_zip (a := i) (b := w) (by rw [hl]; simp)).1
      have hi' : i < (p.foldl (fun f x => f.set x.1 x.2) f).length := by rw [fold_len]; exact hi
      refine ⟨_, [u, v, some (.obj 0), x3, x4, x5, some (eN i), some (eN w)], [some (.lst (((p ++ [(i, w)]).foldl (fun f x => f.set x.1 x.2) f).map eN))], rfl, ?_, _, _, rfl, rfl⟩
      have hx : L2.ixN (p.foldl (fun f x => f.set x.1 x.2) f).length (i : Int) = some i := ixN_nat hi'
      rw [List.foldl_append]
      simp [b13_1, hx, eN])
  exact ⟨x6', x7', h1⟩
theorem r13 (hk : 3 ≤ k) {S : Stg} (hS : S.fine) {parts : List (List Nat)} : (CC P WF k b).run true 13 [S.d, .lst (parts.map eL)] s = some (eM (withP S parts), s) := by
  obtain ⟨k, rfl⟩ := Nat.exists_eq_add_of_le' (show 1 ≤ k by omega)
  refine pure_call (by simp [clL, D.cl]; exact clL_map cl_L _) (s' := [some (.lst ((withP S parts).map eN))]) ?_ (by simp) b s
  rw [go13 hP]
  have e1 := r10 hP 0 [] (k := k) (by omega) hS
  have e2 := r4 hP 0 [some (.lst ((List.range S.n).map eN))] (k := k) (by omega) hS
  have e3 : ∀ s l, listD s (eM l) = some (l.map eN) := fun s l => rfl
  have ez := zp_map (fun t => D.tup [.str (S.man t), eM (S.places t)]) eL (List.range S.tr.length) parts
  obtain ⟨env', s', h1, x3, x4, x5, x6, x7, rfl, rfl⟩ := forE_inv (C := CC P WF k 0) (g := .tup (Gs.of [.tup (Gs.of [.name 3, .name 4]), .name 5])) (b := b13_2) (env := [some S.d, some (.lst (parts.map eL)), some (.obj 0), none, none, none, none, none]) (s := [some (.lst ((List.range S.n).map eN))]) (fun x : Nat × List Nat => D.tup [.tup [.str (S.man x.1), eM (S.places x.1)], eL x.2])
    (fun p env s => ∃ x3 x4 x5 x6 x7, env = [some S.d, some (.lst (parts.map eL)), some (.obj 0), x3, x4, x5, x6, x7] ∧ s = [some (.lst ((withF S p (List.range S.n)).map eN))]) ((List.range S.tr.length).zip parts) ⟨none, none, none, none, none, rfl, rfl⟩ (by
      rintro p ⟨t, r⟩ q _ _ hl ⟨x3, x4, x5, x6, x7, rfl, rfl⟩
      obtain ⟨x6', x7', f1⟩ := with_in (CC P WF k 0) (some S.d) (some (.lst (parts.map eL))) (some (.str (S.man t))) (some (eM (S.places t))) (some (eL r)) (withF S p (List.range S.n)) (S.places t) r (fun i hi => by rw [withF_len, List.length_range]; exact mem_places hi) x6 x7
      have f2 : zipSrc (eM (S.places t)) (eL r) = some (.vals (zp ((S.places t).map eN) (r.map eN))) := rfl
      refine ⟨_, [some S.d, some (.lst (parts.map eL)), some (.obj 0), some (.str (S.man t)), some (eM (S.places t)), some (eL r), x6', x7'], [some (.lst ((withF S (p ++ [(t, r)]) (List.range S.n)).map eN))], rfl, ?_, _, _, _, _, _, rfl, rfl⟩
      have e4 : withF S (p ++ [(t, r)]) (List.range S.n) = setAll (withF S p (List.range S.n)) (S.places t) r := by unfold withF; rw [List.foldl_append]; rfl
      rw [e4]
      simp only [b13_2, exSs_cons, exS_for_, evI_zip, evE_var]
      simp [f2, f1])
  rw [← ez] at h1
  simp only [List.length_nil]
  simp [b13, Es.of, e1, e3, e2, h1, -List.map_map]
  rfl
end
end PG

/-! The program's functions on typed data, part E: a Table's methods. -/
namespace PG
open PySem Fw Mx
def tabF (S : Stg) (row : List Nat) (l : Nat) : List (Str × D) := [("_setting", S.d), ("_row", eM row), ("_layings", .obj l)]
section
variable (S : Stg) (row : List Nat) (l : Nat)
@[simp] theorem tf1 : List.lookup ("_setting" : Str) (tabF S row l) = some S.d := by simp [tabF, List.lookup]
@[simp] theorem tf2 : List.lookup ("_row" : Str) (tabF S row l) = some (eM row) := by simp [tabF, List.lookup]
@[simp] theorem tf3 : List.lookup ("_layings" : Str) (tabF S row l) = some (.obj l) := by simp [tabF, List.lookup]
@[simp] theorem tm1 : List.lookup ("_lay" : Str) (tabF S row l) = none := by simp [tabF, List.lookup]
@[simp] theorem tm2 : List.lookup ("lay" : Str) (tabF S row l) = none := by simp [tabF, List.lookup]
@[simp] theorem tm3 : List.lookup ("exchange" : Str) (tabF S row l) = none := by simp [tabF, List.lookup]
@[simp] theorem tm4 : List.lookup ("turn" : Str) (tabF S row l) = none := by simp [tabF, List.lookup]
@[simp] theorem tm5 : List.lookup ("back" : Str) (tabF S row l) = none := by simp [tabF, List.lookup]
@[simp] theorem tm6 : List.lookup ("row" : Str) (tabF S row l) = none := by simp [tabF, List.lookup]
@[simp] theorem tm7 : List.lookup ("laying" : Str) (tabF S row l) = none := by simp [tabF, List.lookup]
@[simp] theorem tm8 : List.lookup ("deeds" : Str) (tabF S row l) = none := by simp [tabF, List.lookup]
end
structure Tab (s : Sto) (a l : Nat) (S : Stg) (row : List Nat) (st : List (List Nat)) : Prop where
  ins : getO s a = some (.ins "Table" (tabF S row l))
  lay : getO s l = some (.lst (st.map eM))
  ne : st ≠ []
  big : st.length < 1000000
def lastL (st : List (List Nat)) : List Nat := st.getLastD []
theorem last_get {st : List (List Nat)} (h : st ≠ []) : (st.map eM)[st.length - 1]? = some (eM (lastL st)) := by
  rw [List.getElem?_map]
  unfold lastL
  rw [← List.getLast?_eq_getElem?, List.getLastD_eq_getLast?]
  cases e : st.getLast? with
  | none => exact absurd (List.getLast?_eq_none_iff.mp e) h
  | some x => rfl
theorem Tab.last {s : Sto} {a l : Nat} {S : Stg} {row : List Nat} {st : List (List Nat)} (T : Tab s a l S row st) : L2.atI (st.map eM) (-1) = some (eM (lastL st)) := by
  rw [atL_m1, List.length_map]; exact last_get T.ne
section
variable {P : Pr} (hP : Ext P) {k : Nat} {s : Sto}
include hP
theorem t_init (hk : 2 ≤ k) {S : Stg} (hS : S.fine) (row : List Nat) {a : Nat} (h : getO s a = some (.ins "Table" [])) :
    run P WF k 14 [.obj a, S.d, eM row] s = some (.non, setO (s ++ [some (.lst [eM (List.range S.n)])]) a (some (.ins "Table" (tabF S row s.length)))) := by
  obtain ⟨k, rfl⟩ := Nat.exists_eq_add_of_le' (show 1 ≤ k by omega)
  rw [go14 hP]
  have hl := getO_lt h
  have e1 := fun b s => r10 hP b s (k := k) (by omega) hS
  refine st (F := fin) (e1 := [some (.obj a), some S.d, some (eM row)]) (s1 := setO s a (some (.ins "Table" [("_setting", S.d)]))) (by simp [h, putFD]) ?_
  refine st (F := fin) (e1 := [some (.obj a), some S.d, some (eM row)]) (s1 := setO s a (some (.ins "Table" [("_setting", S.d), ("_row", eM row)]))) (by simp [getO_set _ _ hl, putFD, setO_set]) ?_
  refine st (F := fin) (e1 := [some (.obj a), some S.d, some (eM row)]) (s1 := setO (s ++ [some (.lst [eM (List.range S.n)])]) a (some (.ins "Table" (tabF S row s.length)))) ?_ (by simp)
  have e2 : getO (setO s a (some (.ins "Table" [("_setting", S.d), ("_row", eM row)])) ++ [some (.lst [eM (List.range S.n)])]) a = some (.ins "Table" [("_setting", S.d), ("_row", eM row)]) := getO_old (getO_set _ _ hl)
  have e3 : setO (setO s a (some (.ins "Table" [("_setting", S.d), ("_row", eM row)])) ++ [some (.lst [eM (List.range S.n)])]) a (some (.ins "Table" (tabF S row s.length))) = setO (s ++ [some (.lst [eM (List.range S.n)])]) a (some (.ins "Table" (tabF S row s.length))) := by
    rw [setO_appl (by rw [setO_len]; exact hl), setO_appl hl, setO_set]
  simp [Es.of, e1, e2, putFD]
  exact e3
theorem t_lay0 (hk : 2 ≤ k) {S : Stg} {row : List Nat} {st : List (List Nat)} {a l : Nat} (T : Tab s a l S row st) {c : List Nat} (hc : c.length ≤ 1000) (h : ∀ i ∈ c, i < (lastL st).length) :
    run P WF k 15 [.obj a, eM c] s = some (.non, setO s l (some (.lst ((st ++ [comp (lastL st) c]).map eM)))) := by
  obtain ⟨k, rfl⟩ := Nat.exists_eq_add_of_le' (show 1 ≤ k by omega)
  rw [go15 hP]
  have e1 := fun b s => r12 hP b s (k := k) (by omega) hc h
  have e2 := T.last
  simp [b15, Es.of, T.ins, T.lay, e1, atD_obj T.lay, e2, T.big, last_get T.ne]
theorem t_lay_no (hk : 1 ≤ k) {S : Stg} {row : List Nat} {st : List (List Nat)} {a l : Nat} (T : Tab s a l S row st) {d : D} (h8 : ∀ b s, (CC P WF k b).run true 8 [S.d, d] s = some (.bl false, s)) :
    runX P WF (k + 1) 16 [.obj a, d] s = some (.ex "BadRow" [("at", .int (-1))], s) := by
  rw [goX16 hP]
  simp [b16, Es.of, T.ins, h8]
theorem t_lay_ok (hk : 2 ≤ k) {S : Stg} {row : List Nat} {st : List (List Nat)} {a l : Nat} (T : Tab s a l S row st) {c : List Nat} (hc : c.length ≤ 1000) (h : ∀ i ∈ c, i < (lastL st).length) (h8 : ∀ b s, (CC P WF k b).run true 8 [S.d, eM c] s = some (.bl true, s)) :
    runX P WF (k + 1) 16 [.obj a, eM c] s = some (.ok .non, setO s l (some (.lst ((st ++ [comp (lastL st) c]).map eM)))) := by
  rw [goX16 hP]
  have e1 := t_lay0 hP (k := k) hk T hc h
  simp [b16, Es.of, T.ins, h8, e1]
theorem t_back_no (hk : 1 ≤ k) {S : Stg} {row : List Nat} {st : List (List Nat)} {a l : Nat} (T : Tab s a l S row st) (h : st.length = 1) :
    runX P WF k 19 [.obj a] s = some (.ex "NoSuch" [("name", .str ""), ("word", .str "deed")], s) := by
  obtain ⟨k, rfl⟩ := Nat.exists_eq_add_of_le' hk
  rw [goX19 hP]
  simp [b19, Es.of, T.ins, len_obj T.lay, h]
theorem t_back (hk : 1 ≤ k) {S : Stg} {row : List Nat} {st : List (List Nat)} {a l : Nat} (T : Tab s a l S row st) (h : st.length ≠ 1) :
    runX P WF k 19 [.obj a] s = some (.ok .non, setO s l (some (.lst (st.dropLast.map eM)))) := by
  obtain ⟨k, rfl⟩ := Nat.exists_eq_add_of_le' hk
  rw [goX19 hP]
  have h' : ¬ ((st.length : Int) = 1) := by omega
  simp [b19, Es.of, T.ins, len_obj T.lay, h', T.lay, last_get T.ne]
theorem t_row (hk : 2 ≤ k) {S : Stg} {row : List Nat} {st : List (List Nat)} {a l : Nat} (T : Tab s a l S row st) (hc : (lastL st).length ≤ 1000) (h : ∀ i ∈ lastL st, i < row.length) :
    run P WF k 20 [.obj a] s = some (eM (comp row (lastL st)), s) := by
  obtain ⟨k, rfl⟩ := Nat.exists_eq_add_of_le' (show 1 ≤ k by omega)
  rw [go20 hP]
  have e1 := fun b s => r11 hP b s (k := k) (by omega) hc h
  simp [b20, Es.of, T.ins, T.lay, e1, atD_obj T.lay, T.last, last_get T.ne]
theorem t_laying (hk : 1 ≤ k) {S : Stg} {row : List Nat} {st : List (List Nat)} {a l : Nat} (T : Tab s a l S row st) : run P WF k 21 [.obj a] s = some (eM (lastL st), s) := by
  obtain ⟨k, rfl⟩ := Nat.exists_eq_add_of_le' hk
  rw [go21 hP]
  simp [b21, Es.of, T.ins, T.lay, atD_obj T.lay, T.last, last_get T.ne]
theorem t_deeds (hk : 1 ≤ k) {S : Stg} {row : List Nat} {st : List (List Nat)} {a l : Nat} (T : Tab s a l S row st) : run P WF k 22 [.obj a] s = some (.int ((st.length : Int) - 1), s) := by
  obtain ⟨k, rfl⟩ := Nat.exists_eq_add_of_le' hk
  rw [go22 hP]
  simp [b22, Es.of, T.ins, len_obj T.lay]
omit hP in
theorem Tab.keep {S : Stg} {row : List Nat} {st : List (List Nat)} {a l : Nat} (T : Tab s a l S row st) {s' : Sto} {L : List Nat} (h : Keep s s' L) (ha : a ∉ L) (hl : l ∉ L) : Tab s' a l S row st := ⟨h.get T.ins ha, h.get T.lay hl, T.ne, T.big⟩
theorem pl_get {S : Stg} {i : Nat} (h : i < S.n) : (S.pl.map fun p => D.int (p.2 : Int))[i]? = some (.int (S.tray i : Int)) := by
  have h' : i < S.pl.length := h
  unfold Stg.tray
  rw [List.getElem?_map, List.getElem?_eq_getElem h']; rfl
theorem tr_get {S : Stg} {i : Nat} (h : i < S.tr.length) : ∃ x, (S.tr.map eT)[i]? = some (.tup [x, .str (S.man i)]) := by
  refine ⟨.str S.tr[i].1, ?_⟩
  rw [man_get S h, List.getElem?_map, List.getElem?_eq_getElem h]; rfl
theorem x_trays (C : Cc) (env : En) (S : Stg) (hS : S.fine) (s : Sto) (h5 : 5 < env.length) : srcGo (lcF C env (.name 5) .yes b17_1 [5]) (.vals (S.pl.map eP)) s = some (S.pl.map fun p => .int (p.2 : Int), s) := by
  refine lc_map eP (fun p => .int (p.2 : Int)) S.pl (by have := hS.pl; omega) fun p _ => ?_
  simp [lcF, wipeD, b17_1, h5]
theorem t_ex_tray (hk : 1 ≤ k) {S : Stg} (hS : S.fine) {row : List Nat} {st : List (List Nat)} {a l : Nat} (T : Tab s a l S row st) {i j : Nat} (hi : i < S.n) (hj : j < S.n) (h : S.tray i ≠ S.tray j) :
    runX P WF k 17 [.obj a, .int i, .int j] s = some (.ex "BadStep" [("word", .str "tray")], s) := by
  obtain ⟨k, rfl⟩ := Nat.exists_eq_add_of_le' hk
  rw [goX17 hP]
  have e1 := x_trays hP (CC P WF k s.length) [some (.obj a), some (.int i), some (.int j), none, none, none] S hS s (by simp)
  simp [b17, Es.of, T.ins, e1, pl_get hP hi, pl_get hP hj, h]
theorem t_ex_man (hk : 1 ≤ k) {S : Stg} (hS : S.fine) {row : List Nat} {st : List (List Nat)} {a l : Nat} (T : Tab s a l S row st) {i j : Nat} (hi : i < S.n) (hj : j < S.n) (h : S.tray i = S.tray j) (ht : S.tray i < S.tr.length) (hm : S.man (S.tray i) ≠ "any") :
    runX P WF k 17 [.obj a, .int i, .int j] s = some (.ex "BadStep" [("word", .str "manner")], s) := by
  obtain ⟨k, rfl⟩ := Nat.exists_eq_add_of_le' hk
  rw [goX17 hP]
  have e1 := x_trays hP (CC P WF k s.length) [some (.obj a), some (.int i), some (.int j), none, none, none] S hS s (by simp)
  obtain ⟨x, e2⟩ := tr_get hP ht
  have e3 := pl_get hP hj
  rw [← h] at e3
  simp [b17, Es.of, T.ins, e1, pl_get hP hi, e3, e2, hm]
def swapN (n i j : Nat) : List Nat := ((List.range n).set i j).set j i
theorem t_ex (hk : 3 ≤ k) {S : Stg} (hS : S.fine) {row : List Nat} {st : List (List Nat)} {a l : Nat} (T : Tab s a l S row st) {i j : Nat} (hi : i < S.n) (hj : j < S.n) (h : S.tray i = S.tray j) (ht : S.tray i < S.tr.length) (hm : S.man (S.tray i) = "any") (hlen : (lastL st).length = S.n) :
    ∃ o, runX P WF k 17 [.obj a, .int i, .int j] s = some (.ok .non, setO (s ++ [o]) l (some (.lst ((st ++ [comp (lastL st) (swapN S.n i j)]).map eM)))) := by
  obtain ⟨k, rfl⟩ := Nat.exists_eq_add_of_le' (show 1 ≤ k by omega)
  refine ⟨some (.lst ((swapN S.n i j).map eN)), ?_⟩
  rw [goX17 hP]
  have e1 := x_trays hP (CC P WF k s.length) [some (.obj a), some (.int i), some (.int j), none, none, none] S hS s (by simp)
  obtain ⟨x, e2⟩ := tr_get hP ht
  have e3 := pl_get hP hj
  rw [← h] at e3
  have e4 := fun b s => r10 hP b s (k := k) (by omega) hS
  have sw : ∀ x ∈ swapN S.n i j, x < (lastL st).length := by
    intro x hx
    rw [hlen]
    unfold swapN at hx
    rcases List.mem_or_eq_of_mem_set hx with hx | rfl
    · rcases List.mem_or_eq_of_mem_set hx with hx | rfl
      · exact List.mem_range.mp hx
      · exact hj
    · exact hi
  have sl : (swapN S.n i j).length ≤ 1000 := by
    have := hS.pl
    unfold swapN; simp; exact this
  have T2 := T.keep (Keep.app s [some (.lst ((swapN S.n i j).map eN))] []) (by simp) (by simp)
  have e5 := t_lay0 hP (k := k) (by omega) T2 sl sw
  have e6 : ∀ s l, listD s (eM l) = some (l.map eN) := fun s l => rfl
  have e7 : L2.ixN S.n (i : Int) = some i := ixN_nat hi
  have e8 : L2.ixN S.n (j : Int) = some j := ixN_nat hj
  refine Fw.st (F := finX) (e1 := [some (.obj a), some (.int i), some (.int j), some (.lst (S.pl.map fun p => D.int (p.2 : Int))), none, none]) (s1 := s) (by simp [T.ins, e1]) ?_
  refine Fw.st (F := finX) (e1 := [some (.obj a), some (.int i), some (.int j), some (.lst (S.pl.map fun p => D.int (p.2 : Int))), none, none]) (s1 := s) (by simp [pl_get hP hi, e3]) ?_
  refine Fw.st (F := finX) (e1 := [some (.obj a), some (.int i), some (.int j), some (.lst (S.pl.map fun p => D.int (p.2 : Int))), none, none]) (s1 := s) (by simp [pl_get hP hi, T.ins, e2, hm]) ?_
  refine Fw.st (F := finX) (e1 := [some (.obj a), some (.int i), some (.int j), some (.lst (S.pl.map fun p => D.int (p.2 : Int))), some (.obj s.length), none]) (s1 := s ++ [some (.lst ((List.range S.n).map eN))]) (by simp [T.ins, e4, e6, Es.of, -List.map_map]) ?_
  refine Fw.st (F := finX) (e1 := [some (.obj a), some (.int i), some (.int j), some (.lst (S.pl.map fun p => D.int (p.2 : Int))), some (.obj s.length), none]) (s1 := s ++ [some (.lst ((swapN S.n i j).map eN))]) ?_ ?_
  · simp [atD, hi, hj, setiF, e7, e8, swapN, eN]
  · have e9 : ∀ t, listD (s ++ [some (.lst t)]) (.obj s.length) = some t := fun t => list_obj (by simp)
    have e10 : D.tup ((swapN S.n i j).map eN) = eM (swapN S.n i j) := rfl
    have := T2.ins
    simp [Es.of, e9, this, e10, e5, -List.map_append]
theorem own_pos (m : Str) (l : List Nat) : 0 < (ownL m l).length := by
  unfold ownL
  split
  · rename_i h
    rw [List.length_map, List.length_range]
    exact List.length_pos_iff.mpr h.2
  · split
    · simp
    · simp
theorem own_len (m : Str) (l : List Nat) : (ownL m l).length ≤ l.length + 2 := by
  unfold ownL
  split
  · rw [List.length_map, List.length_range]; omega
  · split
    · simp
    · simp
theorem tw_get {S : Stg} {t : Nat} (ht : t < S.tr.length) : ((List.range S.tr.length).map fun t => D.tup [.str (S.man t), eM (S.places t)])[t]? = some (.tup [.str (S.man t), eM (S.places t)]) := by
  rw [List.getElem?_map, List.getElem?_range ht]; rfl
theorem t_turn_no (hk : 3 ≤ k) {S : Stg} (hS : S.fine) {row : List Nat} {st : List (List Nat)} {a l : Nat} (T : Tab s a l S row st) {t : Nat} (ht : t < S.tr.length) (m : Int) (hm : S.man t ∉ (["ring", "turn"] : List Str)) :
    runX P WF k 18 [.obj a, .int t, .int m] s = some (.ex "BadStep" [("word", .str "manner")], s) := by
  obtain ⟨k, rfl⟩ := Nat.exists_eq_add_of_le' (show 1 ≤ k by omega)
  rw [goX18 hP]
  have e1 := fun b s => r4 hP b s (k := k) (by omega) hS
  have e2 := tw_get hP ht
  have e3 := in_strs (S.man t) ["ring", "turn"]
  have e4 : evCmp .notin (.str (S.man t)) (.tup [.str "ring", .str "turn"]) = some true := by
    show (inD (.str (S.man t)) (.tup ((["ring", "turn"] : List Str).map .str))).map (!·) = _
    rw [e3]; simp [hm]
  simp [b18, Es.of, Gs.of, T.ins, e1, e2, e4]
def turnP (S : Stg) (t : Nat) (r : List Nat) : List (List Nat) := ((List.range S.tr.length).map S.places).set t r
/-- which of its own layings a turn means -/
def turnL (S : Stg) (t : Nat) (m : Int) : List Nat := (ownL (S.man t) (S.places t)).getD (m.fmod (ownL (S.man t) (S.places t)).length).toNat []
theorem setAll_mem {f ps vs : List Nat} {n : Nat} (hf : ∀ x ∈ f, x < n) (hv : ∀ x ∈ vs, x < n) : ∀ x ∈ setAll f ps vs, x < n := by
  unfold setAll
  have : ∀ z ∈ ps.zip vs, z.2 < n := fun z hz => hv _ (List.of_mem_zip (a := z.1) (b := z.2) hz).2
  generalize ps.zip vs = l at this
  induction l generalizing f with
  | nil => exact hf
  | cons x l ih =>
    rw [List.foldl_cons]
    refine ih (fun y hy => ?_) fun z hz => this z (List.mem_cons_of_mem _ hz)
    rcases List.mem_or_eq_of_mem_set hy with hy | rfl
    · exact hf y hy
    · exact this x (List.mem_cons_self ..)
theorem withP_mem {S : Stg} {parts : List (List Nat)} (h : ∀ r ∈ parts, ∀ x ∈ r, x < S.n) : ∀ x ∈ withP S parts, x < S.n := by
  unfold withP withF
  have : ∀ z ∈ (List.range S.tr.length).zip parts, ∀ x ∈ z.2, x < S.n := fun z hz => h _ (List.of_mem_zip (a := z.1) (b := z.2) hz).2
  have h0 : ∀ x ∈ List.range S.n, x < S.n := fun x hx => List.mem_range.mp hx
  generalize List.range S.n = f at h0
  generalize (List.range S.tr.length).zip parts = l at this
  induction l generalizing f with
  | nil => exact h0
  | cons x l ih =>
    rw [List.foldl_cons]
    exact ih _ (setAll_mem hP h0 (this x (List.mem_cons_self ..))) (fun z hz => this z (List.mem_cons_of_mem _ hz))
theorem rot_mem {l : List Nat} {m x : Nat} (h : x ∈ rotN l m) : x ∈ l := by
  obtain ⟨i, hi, rfl⟩ := List.mem_map.mp h
  have hi := List.mem_range.mp hi
  have h1 : (i + m) % l.length < l.length := Nat.mod_lt _ (by omega)
  rw [getn_eq h1]; exact List.getElem_mem h1
theorem own_mem {m : Str} {l r : List Nat} (h : r ∈ ownL m l) : ∀ x ∈ r, x ∈ l := by
  unfold ownL at h
  split at h
  · obtain ⟨i, _, rfl⟩ := List.mem_map.mp h
    exact fun x hx => rot_mem hP hx
  · split at h
    · simp at h
      rcases h with rfl | rfl
      · exact fun x hx => hx
      · exact fun x hx => by simpa using hx
    · simp at h
      subst h
      exact fun x hx => hx
theorem t_turn (hk : 4 ≤ k) {S : Stg} (hS : S.fine) {row : List Nat} {st : List (List Nat)} {a l : Nat} (T : Tab s a l S row st) {t : Nat} (ht : t < S.tr.length) (m : Int) (hm : S.man t ∈ (["ring", "turn"] : List Str)) (hlen : (lastL st).length = S.n) :
    ∃ o, runX P WF k 18 [.obj a, .int t, .int m] s = some (.ok .non, setO (s ++ [o]) l (some (.lst ((st ++ [comp (lastL st) (withP S (turnP S t (turnL S t m)))]).map eM)))) := by
  obtain ⟨k, rfl⟩ := Nat.exists_eq_add_of_le' (show 1 ≤ k by omega)
  refine ⟨none, ?_⟩
  rw [goX18 hP]
  have e1 := fun b s => r4 hP b s (k := k) (by omega) hS
  have e2 := tw_get hP ht
  have e3 := in_strs (S.man t) ["ring", "turn"]
  have e4 : evCmp .notin (.str (S.man t)) (.tup [.str "ring", .str "turn"]) = some false := by
    show (inD (.str (S.man t)) (.tup ((["ring", "turn"] : List Str).map .str))).map (!·) = _
    rw [e3]; simp [hm]
  have hpn := places_len S t
  have hn : S.n ≤ 1000 := hS.pl
  have e5 := fun b s => r6 hP b s (k := k) (by omega) (l := S.places t) (by omega) (S.man t)
  have e6 := lc_map (C := CC P WF k s.length) (env := [some (.obj a), some (.int t), some (.int m), some (.lst ((List.range S.tr.length).map fun t => D.tup [.str (S.man t), eM (S.places t)])), some (.str (S.man t)), some (eM (S.places t)), some (.lst ((ownL (S.man t) (S.places t)).map eL)), none, none, none]) (g := .tup (Gs.of [.name 8, .name 9])) (t := .yes) (e := b18_1) (own := [8, 9]) (s := s) (fun t => D.tup [.str (S.man t), eM (S.places t)]) (fun t => eL (S.places t)) (List.range S.tr.length) (by rw [List.length_range]; have := hS.tr; omega) fun t ht => by
    have : ∀ s l, listD s (eM l) = some (l.map eN) := fun s l => rfl
    simp [lcF, wipeD, Gs.of, b18_1, this, eL]
  have h0 := own_pos hP (S.man t) (S.places t)
  obtain ⟨r, hr, hr2⟩ := fm_nat m h0
  have e7 : ((ownL (S.man t) (S.places t)).map eL)[r]? = some (eL (turnL S t m)) := by
    unfold turnL
    rw [hr, Int.toNat_natCast, List.getElem?_map, List.getD_eq_getElem?_getD, List.getElem?_eq_getElem hr2]; rfl
  have e8 := modI m (ownL (S.man t) (S.places t)).length (by omega)
  rw [hr] at e8
  have e9 : L2.ixN S.tr.length (t : Int) = some t := ixN_nat ht
  have e10 : ((List.range S.tr.length).map fun t => eL (S.places t)).set t (eL (turnL S t m)) = (turnP S t (turnL S t m)).map eL := by
    unfold turnP; rw [List.map_set, List.map_map]; rfl
  have e11 := fun b s => r13 hP b s (k := k) (by omega) hS (parts := turnP S t (turnL S t m))
  have ho : turnL S t m ∈ ownL (S.man t) (S.places t) := by
    unfold turnL; rw [hr, Int.toNat_natCast, List.getD_eq_getElem?_getD, List.getElem?_eq_getElem hr2]; exact List.getElem_mem hr2
  have hmem : ∀ x ∈ withP S (turnP S t (turnL S t m)), x < (lastL st).length := by
    rw [hlen]
    refine withP_mem hP fun q hq x hx => ?_
    unfold turnP at hq
    rcases List.mem_or_eq_of_mem_set hq with hq | rfl
    · obtain ⟨u, _, rfl⟩ := List.mem_map.mp hq
      exact mem_places hx
    · exact mem_places (own_mem hP ho x hx)
  have T2 := T.keep (Keep.app s [none] []) (by simp) (by simp)
  have e12 := t_lay0 hP (k := k) (by omega) T2 (c := withP S (turnP S t (turnL S t m))) (by unfold withP; rw [withF_len, List.length_range]; exact hn) hmem
  refine Fw.st (F := finX) (e1 := [some (.obj a), some (.int t), some (.int m), some (.lst ((List.range S.tr.length).map fun t => D.tup [.str (S.man t), eM (S.places t)])), none, none, none, none, none, none]) (s1 := s) (by simp [T.ins, e1, Es.of]) ?_
  refine Fw.st (F := finX) (e1 := [some (.obj a), some (.int t), some (.int m), some (.lst ((List.range S.tr.length).map fun t => D.tup [.str (S.man t), eM (S.places t)])), some (.str (S.man t)), some (eM (S.places t)), none, none, none, none]) (s1 := s) (by simp [e2, Gs.of]) ?_
  refine Fw.st (F := finX) (e1 := [some (.obj a), some (.int t), some (.int m), some (.lst ((List.range S.tr.length).map fun t => D.tup [.str (S.man t), eM (S.places t)])), some (.str (S.man t)), some (eM (S.places t)), none, none, none, none]) (s1 := s) (by simp [Es.of, e4]) ?_
  refine Fw.st (F := finX) (e1 := [some (.obj a), some (.int t), some (.int m), some (.lst ((List.range S.tr.length).map fun t => D.tup [.str (S.man t), eM (S.places t)])), some (.str (S.man t)), some (eM (S.places t)), some (.lst ((ownL (S.man t) (S.places t)).map eL)), none, none, none]) (s1 := s) (by simp [Es.of, e5]) ?_
  refine Fw.st (F := finX) (e1 := [some (.obj a), some (.int t), some (.int m), some (.lst ((List.range S.tr.length).map fun t => D.tup [.str (S.man t), eM (S.places t)])), some (.str (S.man t)), some (eM (S.places t)), some (.lst ((ownL (S.man t) (S.places t)).map eL)), some (.obj s.length), none, none]) (s1 := s ++ [some (.lst ((List.range S.tr.length).map fun t => eL (S.places t)))]) (by simp [e6]) ?_
  refine Fw.st (F := finX) (e1 := [some (.obj a), some (.int t), some (.int m), some (.lst ((List.range S.tr.length).map fun t => D.tup [.str (S.man t), eM (S.places t)])), some (.str (S.man t)), some (eM (S.places t)), some (.lst ((ownL (S.man t) (S.places t)).map eL)), some (.obj s.length), none, none]) (s1 := s ++ [some (.lst ((turnP S t (turnL S t m)).map eL))]) (by simp [e7, e8, e9, e10]) ?_
  have := T2.ins
  simp [frzS, Es.of, this, e11, e12, -List.map_append]
end
end PG

/-! Layings in plain Lean, part F: of a tray, of a setting. -/
namespace PG
open PySem Fw Mx
theorem rot_eq {l : List Nat} {m : Nat} (h : m < l.length) : rotN l m = l.drop m ++ l.take m := by
  apply List.ext_getElem
  · simp [rotN]; omega
  · intro i h1 h2
    have hi : i < l.length := by simpa [rotN] using h1
    have e1 : (rotN l m)[i] = getn l ((i + m) % l.length) := by simp [rotN]
    rw [e1]
    have h0 : (i + m) % l.length < l.length := Nat.mod_lt _ (by omega)
    rw [getn_eq h0]
    by_cases hc : i < (l.drop m).length
    · rw [List.getElem_append_left hc, List.getElem_drop]
      rw [List.length_drop] at hc
      congr 1
      rw [Nat.mod_eq_of_lt (by omega)]; omega
    · rw [List.getElem_append_right (by omega), List.getElem_take]
      rw [List.length_drop] at hc
      congr 1
      rw [List.length_drop, Nat.mod_eq_sub_mod (by omega), Nat.mod_eq_of_lt (by omega)]; omega
theorem rot_perm {l : List Nat} {m : Nat} (h : m < l.length) : (rotN l m).Perm l := by
  rw [rot_eq h]
  have := List.perm_append_comm (l₁ := l.drop m) (l₂ := l.take m)
  rwa [List.take_append_drop] at this
theorem own_perm {m : Str} {l r : List Nat} (h : r ∈ ownL m l) : r.Perm l := by
  unfold ownL at h
  split at h
  · obtain ⟨i, hi, rfl⟩ := List.mem_map.mp h
    exact rot_perm (List.mem_range.mp hi)
  · split at h
    · simp at h
      rcases h with rfl | rfl
      · exact .refl _
      · exact List.reverse_perm _
    · simp at h
      subst h
      exact .refl _
abbrev sortI (a : List Int) : List Int := a.mergeSort fun x y => decide (x ≤ y)
theorem sortI_pw (a : List Int) : (sortI a).Pairwise fun x y => x ≤ y := by
  have := List.pairwise_mergeSort (le := fun x y : Int => decide (x ≤ y)) (fun a b c h1 h2 => by simp at *; omega) (fun a b => by simp; omega) a
  exact this.imp fun h => by simpa using h
theorem sort_of_perm {a b : List Int} (h : a.Perm b) : sortI a = sortI b := by
  refine List.Perm.eq_of_pairwise (le := fun x y => x ≤ y) (fun x y _ _ h1 h2 => Int.le_antisymm h1 h2) (sortI_pw a) (sortI_pw b) ?_
  exact ((List.mergeSort_perm _ _).trans h).trans (List.mergeSort_perm _ _).symm
theorem sort_range (n : Nat) : sortI ((List.range n).map Int.ofNat) = (List.range n).map Int.ofNat := by
  refine List.mergeSort_of_pairwise ?_
  rw [List.pairwise_map]
  refine List.Pairwise.imp ?_ List.pairwise_lt_range
  intro x y h
  have : (x : Int) ≤ y := by omega
  exact decide_eq_true this
theorem perm_of_sort {a b : List Int} (h : sortI a = b) : a.Perm b := by
  rw [← h]; exact (List.mergeSort_perm _ _).symm
theorem isOwn_perm {m : Str} {l : List Nat} {a : List Int} (h : isOwn m l a = true) : a.Perm (l.map Int.ofNat) := by
  unfold isOwn at h
  split at h
  · exact perm_of_sort (of_decide_eq_true h)
  · obtain ⟨r, hr, rfl⟩ := List.mem_map.mp (of_decide_eq_true h)
    exact (own_perm hr).map _
/-- all places, tray by tray -/
theorem flat_perm (f : Nat → Nat) (l : List Nat) : ∀ T : Nat, (l.filter fun i => decide (f i < T)).Perm ((List.range T).flatMap fun t => l.filter fun i => decide (f i = t))
  | 0 => by simp
  | T + 1 => by
    rw [List.range_succ, List.flatMap_append]
    simp only [List.flatMap_cons, List.flatMap_nil, List.append_nil]
    have ih := flat_perm f l T
    have h1 := List.filter_append_perm (fun i => decide (f i < T)) (l.filter fun i => decide (f i < T + 1))
    rw [List.filter_filter, List.filter_filter] at h1
    have e1 : (l.filter fun i => decide (f i < T) && decide (f i < T + 1)) = l.filter fun i => decide (f i < T) := by
      congr 1; funext i
      by_cases h : f i < T
      · simp [h]; omega
      · simp [h]
    have e2 : (l.filter fun i => (!decide (f i < T)) && decide (f i < T + 1)) = l.filter fun i => decide (f i = T) := by
      congr 1; funext i
      by_cases h : f i = T
      · simp [h]
      · by_cases h2 : f i < T
        · simp [h, h2]
        · simp [h, h2]; omega
    rw [e1, e2] at h1
    exact h1.symm.trans (ih.append_right _)
/-- every place lies in a tray -/
def _root_.Mx.Stg.inT (S : Stg) : Prop := ∀ i, i < S.n → S.tray i < S.tr.length
theorem inT_ok {S : Stg} {most : Nat} (h : S.ok most) : S.inT := by
  intro i hi
  have hi' : i < S.pl.length := hi
  unfold Stg.tray
  rw [List.getElem?_eq_getElem hi']
  exact h.pt _ (List.getElem_mem hi')
theorem range_perm {S : Stg} (h : S.inT) : (List.range S.n).Perm ((List.range S.tr.length).flatMap S.places) := by
  have := flat_perm S.tray (List.range S.n) S.tr.length
  have e : (List.range S.n).filter (fun i => decide (S.tray i < S.tr.length)) = List.range S.n := by
    rw [List.filter_eq_self]
    intro i hi
    exact decide_eq_true (h i (List.mem_range.mp hi))
  rw [e] at this
  exact this
theorem flat_map_perm {α β : Type} {f g : α → List β} : ∀ {l : List α}, (∀ x ∈ l, (f x).Perm (g x)) → (l.flatMap f).Perm (l.flatMap g)
  | [], _ => .refl _
  | x :: l, h => by
    rw [List.flatMap_cons, List.flatMap_cons]
    exact (h x (List.mem_cons_self ..)).append (flat_map_perm fun y hy => h y (List.mem_cons_of_mem _ hy))
theorem ints_eq {a : List Int} : a = (List.range a.length).map fun i => geti a i := by
  apply List.ext_getElem
  · simp
  · intro i h1 h2
    simp [geti_eq h1]
/-- a laying of the setting is its places in another turn -/
theorem isLay_perm {S : Stg} (hT : S.inT) {a : List Int} (hl : a.length = S.n) (h : S.isLay a = true) : a.Perm ((List.range S.n).map Int.ofNat) := by
  have hr := range_perm hT
  have e : a = (List.range S.n).map fun i => geti a i := by rw [← hl]; exact ints_eq
  have h1 : a.Perm (((List.range S.tr.length).flatMap S.places).map fun i => geti a i) := by
    have h3 := hr.map (fun i => geti a i)
    rw [← e] at h3
    exact h3
  rw [List.map_flatMap] at h1
  refine h1.trans ?_
  have h2 : ((List.range S.n).map Int.ofNat).Perm (((List.range S.tr.length).flatMap S.places).map Int.ofNat) := hr.map _
  rw [List.map_flatMap] at h2
  refine List.Perm.trans ?_ h2.symm
  refine flat_map_perm fun t ht => ?_
  unfold Stg.isLay at h
  exact isOwn_perm (List.all_eq_true.mp h t ht)
theorem isLay_nat {S : Stg} (hT : S.inT) {a : List Int} (hl : a.length = S.n) (h : S.isLay a = true) : ∃ c : List Nat, a = c.map Int.ofNat ∧ c.length = S.n ∧ c.Perm (List.range S.n) := by
  have hp := isLay_perm hT hl h
  have e : a = (a.map Int.toNat).map Int.ofNat := by
    rw [List.map_map]
    conv => lhs; rw [← List.map_id a]
    refine List.map_congr_left fun x hx => ?_
    obtain ⟨i, _, rfl⟩ := List.mem_map.mp (hp.subset hx)
    rfl
  refine ⟨a.map Int.toNat, e, by rw [List.length_map]; exact hl, ?_⟩
  have := hp.map Int.toNat
  rw [List.map_map] at this
  have e2 : (List.range S.n).map (Int.toNat ∘ Int.ofNat) = List.range S.n := by
    conv => rhs; rw [← List.map_id (List.range S.n)]
    rfl
  rwa [e2] at this
end PG

/-! K93: the law's functions in our syntax (printed by gen2.py) -/
namespace K93
open PySem Fw PG
/-- _law_cloth: 0 script, 1 great, 2 mixed, 3 cell, 4 size -/
def b500_1 : Ss := .cons (.asg (.name 4) (.bin .mod (.b1 .abs (.b1 .int (.var 3))) (.bin .shl (.int 1) (.int 2000)))) (.cons (.asg (.name 2) (.bin .mod (.b1 .int (.bin .add (.bin .add (.bin .add (.bin .mul (.var 2) (.int 39373)) (.bin .mod (.var 4) (.int 999371))) (.bin .mul (.int 7) (.b1 .int (.cmp .lt (.var 3) (.int 0))))) (.int 1))) (.int 2147482481))) (.cons (.ife (.val (.cmp .ge (.var 4) (.bin .pow (.int 10) (.int 17)))) (.cons (.expr (.app (.var 1) (.var 4))) (.nil)) (.nil)) (.nil)))
def b500 : Ss := .cons (.par 1 2 (.newL .nil) (.int 132001)) (.cons (.for_ (.name 3) (.seq (.slc (.var 0) .none (.some (.int 50)))) b500_1) (.cons (.ret (.disp ["great", "mixed", "turns", "wonts"] (Es.of [(.var 1), (.var 2), (.int 0), .newK]))) (.nil)))
/-- _law_take: 0 cloth, 1 place, 2 many, 3 size, 4 wont -/
def b501 : Ss := .cons (.ife (.val (.cmp .lt (.var 2) (.int 2))) (.cons (.ret (.int 0)) (.nil)) (.nil)) (.cons (.ife (.val (.cmp .gt (.b1 .len (.dget (.var 0) (.str "great"))) (.int 0))) (.cons (.asg (.name 3) (.pop (.dget (.var 0) (.str "great")))) (.cons (.ife (.val (.cmp .ge (.var 3) (.var 2))) (.cons (.expr (.app (.dget (.var 0) (.str "great")) (.bin .fdiv (.var 3) (.var 2)))) (.nil)) (.nil)) (.cons (.ret (.bin .mod (.b1 .int (.var 3)) (.var 2))) (.nil)))) (.nil)) (.cons (.dput (.var 0) (.str "turns") (.bin .add (.dget (.var 0) (.str "turns")) (.int 1))) (.cons (.dput (.var 0) (.str "mixed") (.bin .mod (.b1 .int (.bin .add (.bin .add (.bin .mul (.dget (.var 0) (.str "mixed")) (.int 39373)) (.bin .mul (.dget (.var 0) (.str "turns")) (.int 63029))) (.int 7))) (.int 2147482481))) (.cons (.ife (.val (.dnin (.var 1) (.dget (.var 0) (.str "wonts")))) (.cons (.dput (.dget (.var 0) (.str "wonts")) (.var 1) (.bin .fdiv (.dget (.var 0) (.str "mixed")) (.int 17))) (.cons (.dput (.var 0) (.str "mixed") (.bin .mod (.b1 .int (.bin .add (.bin .mul (.dget (.var 0) (.str "mixed")) (.int 39373)) (.int 63029))) (.int 2147482481))) (.nil))) (.nil)) (.cons (.asg (.name 4) (.dget (.dget (.var 0) (.str "wonts")) (.var 1))) (.cons (.ife (.val (.cmp .lt (.bin .mod (.b1 .int (.var 4)) (.int 13)) (.int 3))) (.cons (.ret (.idx (.tup (Es.of [(.int 0), (.bin .sub (.var 2) (.int 1)), (.bin .mod (.b1 .int (.bin .fdiv (.var 4) (.int 13))) (.var 2))])) (.bin .mod (.b1 .int (.var 4)) (.int 13)))) (.nil)) (.nil)) (.cons (.ret (.bin .mod (.b1 .int (.bin .fdiv (.dget (.var 0) (.str "mixed")) (.int 17))) (.var 2))) (.nil))))))))
/-- _law_same: 0 told, 1 due, 2 work, 3 one, 4 other, 5 at -/
def b502_1 : Ss := .cons (.expr (.app (.var 2) (.tup (Es.of [(.idx (.var 3) (.var 5)), (.idx (.var 4) (.var 5))])))) (.nil)
def b502_2 : T := (.val (.cmp .gt (.b1 .len (.var 2)) (.int 0)))
def b502_3 : Ss := .cons (.asg (.tup (Gs.of [(.name 3), (.name 4)])) (.pop (.var 2))) (.cons (.ife (.or (.tru (.isI (.var 4) .tuple)) (.tru (.isI (.var 4) .list))) (.cons (.ife (.or (.val (.cmp .ne (.isI (.var 3) .tuple) (.isI (.var 4) .tuple))) (.or (.val (.cmp .ne (.isI (.var 3) .list) (.isI (.var 4) .list))) (.val (.cmp .ne (.b1 .len (.var 3)) (.b1 .len (.var 4)))))) (.cons (.ret (.bl false)) (.nil)) (.nil)) (.cons (.for_ (.name 5) (.rng1 (.b1 .len (.var 4))) b502_1) (.nil))) (.cons (.ife (.tru (.isI (.var 4) .str)) (.cons (.ife (.or (.not (.tru (.isI (.var 3) .str))) (.val (.cmp .ne (.var 3) (.var 4)))) (.cons (.ret (.bl false)) (.nil)) (.nil)) (.nil)) (.cons (.ife (.val (.cmp .isN (.var 4) .non)) (.cons (.ife (.val (.cmp .notN (.var 3) .non)) (.cons (.ret (.bl false)) (.nil)) (.nil)) (.nil)) (.cons (.ife (.or (.val (.cmp .ne (.isI (.var 3) .bool) (.isI (.var 4) .bool))) (.or (.not (.tru (.isI (.var 3) .int))) (.val (.cmp .ne (.var 3) (.var 4))))) (.cons (.ret (.bl false)) (.nil)) (.nil)) (.nil))) (.nil))) (.nil))) (.nil))
def b502 : Ss := .cons (.asg (.name 2) (.newL (Es.of [(.tup (Es.of [(.var 0), (.var 1)]))]))) (.cons (.whl b502_2 b502_3) (.cons (.ret (.bl true)) (.nil)))
/-- _law_setting: 0 cloth, 1 most, 2 many, 3 marks, 4 turn, 5 trays, 6 at, 7 names, 8 pool, 9 places -/
def b503_1 : E := (.tup (Es.of [(.idx (.var 8) (.var 6)), (.call false 501 (Es.of [(.var 0), (.str "tray"), (.b1 .len (.var 5))]))]))
def b503_2 : Ss := .cons (.expr (.app (.var 5) (.tup (Es.of [(.idx (.tup (Es.of [(.str "bag"), (.str "t2"), (.str "ring1")])) (.var 6)), (.idx (.tup (Es.of [(.str "any"), (.str "ring"), (.str "turn"), (.str "fixed"), (.str "any")])) (.call false 501 (Es.of [(.var 0), (.str "manner"), (.int 5)])))])))) (.nil)
def b503 : Ss := .cons (.asg (.name 2) (.bin .add (.int 1) (.call false 501 (Es.of [(.var 0), (.str "places"), (.var 1)])))) (.cons (.asg (.name 3) (.bin .add (.int 2) (.call false 501 (Es.of [(.var 0), (.str "marks"), (.ife (.val (.cmp .gt (.var 2) (.int 5))) (.int 1) (.ife (.val (.cmp .gt (.var 2) (.int 3))) (.int 2) (.int 4)))])))) (.cons (.asg (.name 4) (.call false 501 (Es.of [(.var 0), (.str "names"), (.int 5)]))) (.cons (.asg (.name 5) (.newL .nil)) (.cons (.for_ (.name 6) (.rng1 (.bin .add (.int 1) (.call false 501 (Es.of [(.var 0), (.str "trays"), (.int 3)])))) b503_2) (.cons (.asg (.name 7) (.slc (.tup (Es.of [(.str "red"), (.str "blue"), (.str "m3"), (.str "a"), (.str "green"), (.str "red"), (.str "blue"), (.str "m3"), (.str "a")])) (.some (.var 4)) (.some (.bin .add (.var 4) (.var 3))))) (.cons (.asg (.name 8) (.tup (Es.of [(.str "x1"), (.str "b"), (.str "w1"), (.str "p4"), (.str "q"), (.str "zz9"), (.str "k7"), (.str "eightlet")]))) (.cons (.asg (.name 9) (.lc (.name 6) (.rng1 (.var 2)) .yes b503_1 [6])) (.cons (.ret (.tup (Es.of [(.var 7), (.b1 .tup (.var 5)), (.b1 .tup (.var 9))]))) (.nil)))))))))
/-- _law_drawn: 0 cloth, 1 setting, 2 told, 3 tray, 4 places, 5 manner, 6 row, 7 left, 8 at -/
def b504_1 : Ss := .cons (.seti (.var 2) (.idx (.var 4) (.var 8)) (.idx (.var 6) (.var 8))) (.nil)
def b504_2 : T := (.val (.cmp .gt (.b1 .len (.var 7)) (.int 0)))
def b504_3 : Ss := .cons (.expr (.app (.var 6) (.popAt (.var 7) (.call false 501 (Es.of [(.var 0), (.str "mix"), (.b1 .len (.var 7))]))))) (.nil)
def b504_4 : E := (.var 8)
def b504_5 : T := (.val (.cmp .eq (.idx (.idx (.idx (.var 1) (.int 2)) (.var 8)) (.int 1)) (.var 3)))
def b504_6 : Ss := .cons (.asg (.name 4) (.lc (.name 8) (.rng1 (.b1 .len (.idx (.var 1) (.int 2)))) b504_5 b504_4 [8])) (.cons (.par 5 6 (.idx (.idx (.idx (.var 1) (.int 1)) (.var 3)) (.int 1)) (.newLst (.var 4))) (.cons (.ife (.val (.cmp .eq (.var 5) (.str "any"))) (.cons (.par 7 6 (.newLst (.var 4)) (.newL .nil)) (.cons (.whl b504_2 b504_3) (.nil))) (.cons (.ife (.and (.val (.cmp .eq (.var 5) (.str "ring"))) (.val (.cmp .gt (.b1 .len (.var 4)) (.int 0)))) (.cons (.asg (.name 8) (.call false 501 (Es.of [(.var 0), (.str "turned"), (.b1 .len (.var 4))]))) (.cons (.asg (.name 6) (.bin .add (.slc (.var 4) (.some (.var 8)) .none) (.slc (.var 4) .none (.some (.var 8))))) (.nil))) (.cons (.ife (.and (.val (.cmp .eq (.var 5) (.str "turn"))) (.val (.cmp .eq (.call false 501 (Es.of [(.var 0), (.str "back"), (.int 2)])) (.int 0)))) (.cons (.asg (.name 6) (.rev (.var 4))) (.nil)) (.nil)) (.nil))) (.nil))) (.cons (.for_ (.name 8) (.rng1 (.b1 .len (.var 4))) b504_1) (.nil))))
def b504 : Ss := .cons (.asg (.name 2) (.newLstRg (.b1 .len (.idx (.var 1) (.int 2))))) (.cons (.for_ (.name 3) (.rng1 (.b1 .len (.idx (.var 1) (.int 1)))) b504_6) (.cons (.ret (.b1 .tup (.var 2))) (.nil)))
/-- _law_is_laying: 0 setting, 1 thing, 2 many, 3 tray, 4 places, 5 row, 6 manner, 7 place, 8 at -/
def b505_1 : E := (.bin .add (.slc (.var 4) (.some (.var 8)) .none) (.slc (.var 4) .none (.some (.var 8))))
def b505_2 : E := (.idx (.var 1) (.var 8))
def b505_3 : E := (.var 8)
def b505_4 : T := (.val (.cmp .eq (.idx (.idx (.idx (.var 0) (.int 2)) (.var 8)) (.int 1)) (.var 3)))
def b505_5 : Ss := .cons (.asg (.name 4) (.lc (.name 8) (.rng1 (.var 2)) b505_4 b505_3 [8])) (.cons (.par 5 6 (.lc (.name 8) (.seq (.var 4)) .yes b505_2 [8]) (.idx (.idx (.idx (.var 0) (.int 1)) (.var 3)) (.int 1))) (.cons (.ife (.val (.cmp .eq (.var 6) (.str "any"))) (.cons (.ife (.val (.cmp .neD (.sort (.var 5)) (.var 4))) (.cons (.ret (.bl false)) (.nil)) (.nil)) (.nil)) (.cons (.ife (.val (.cmp .eq (.var 6) (.str "ring"))) (.cons (.ife (.val (.cmp .notin (.var 5) (.lc (.name 8) (.rng1 (.max2 (.int 1) (.b1 .len (.var 4)))) .yes b505_1 [8]))) (.cons (.ret (.bl false)) (.nil)) (.nil)) (.nil)) (.cons (.ife (.and (.val (.cmp .neD (.var 5) (.var 4))) (.or (.val (.cmp .eq (.var 6) (.str "fixed"))) (.val (.cmp .neD (.var 5) (.rev (.var 4)))))) (.cons (.ret (.bl false)) (.nil)) (.nil)) (.nil))) (.nil))) (.nil)))
def b505_6 : E := (.int 1)
def b505_7 : T := (.or (.tru (.isI (.var 7) .bool)) (.not (.tru (.isI (.var 7) .int))))
def b505 : Ss := .cons (.asg (.name 2) (.b1 .len (.idx (.var 0) (.int 2)))) (.cons (.ife (.or (.not (.tru (.isI (.var 1) .tuple))) (.or (.val (.cmp .ne (.b1 .len (.var 1)) (.var 2))) (.val (.cmp .gt (.b1 .len (.lc (.name 7) (.seq (.var 1)) b505_7 b505_6 [7])) (.int 0))))) (.cons (.ret (.bl false)) (.nil)) (.nil)) (.cons (.ife (.val (.cmp .neD (.sort (.var 1)) (.lstRg (.var 2)))) (.cons (.ret (.bl false)) (.nil)) (.nil)) (.cons (.for_ (.name 3) (.rng1 (.b1 .len (.idx (.var 0) (.int 1)))) b505_5) (.cons (.ret (.bl true)) (.nil)))))
/-- _law_moved: 0 setting, 1 state, 2 deed, 3 now, 4 word, 5 one, 6 other, 7 told, 8 tray, 9 many, 10 manner, 11 places, 12 at, 13 back, 14 from_at, 15 place -/
def b506_1 : Ss := .cons (.asg (.name 13) (.ife (.val (.cmp .eq (.bin .mod (.b1 .int (.var 9)) (.int 2)) (.int 1))) (.bin .sub (.bin .sub (.b1 .len (.var 11)) (.int 1)) (.var 12)) (.var 12))) (.cons (.asg (.name 14) (.ife (.val (.cmp .eq (.var 10) (.str "ring"))) (.bin .mod (.b1 .int (.bin .add (.var 12) (.var 9))) (.b1 .len (.var 11))) (.var 13))) (.cons (.seti (.var 7) (.idx (.var 11) (.var 12)) (.idx (.var 3) (.idx (.var 11) (.var 14)))) (.nil)))
def b506_2 : E := (.var 12)
def b506_3 : T := (.val (.cmp .eq (.idx (.idx (.idx (.var 0) (.int 2)) (.var 12)) (.int 1)) (.var 8)))
def b506_4 : E := (.idx (.var 3) (.var 15))
def b506 : Ss := .cons (.asg (.tup (Gs.of [(.name 3), (.name 4)])) (.tup (Es.of [(.idx (.var 1) (.int (-1))), (.idx (.var 2) (.int 0))]))) (.cons (.ife (.val (.cmp .eq (.var 4) (.str "lay"))) (.cons (.ret (.ife (.tru (.call true 505 (Es.of [(.var 0), (.idx (.var 2) (.int 1))]))) (.b1 .tup (.lc (.name 15) (.seq (.idx (.var 2) (.int 1))) .yes b506_4 [15])) (.tup (Es.of [(.str "row"), (.int (-1))])))) (.nil)) (.nil)) (.cons (.ife (.val (.cmp .eq (.var 4) (.str "back"))) (.cons (.ret (.ife (.val (.cmp .eq (.b1 .len (.var 1)) (.int 1))) (.tup (Es.of [(.str "none"), (.str "deed"), (.str "")])) .non)) (.nil)) (.nil)) (.cons (.ife (.val (.cmp .eq (.var 4) (.str "exchange"))) (.cons (.asg (.tup (Gs.of [(.name 5), (.name 6)])) (.slc (.var 2) (.some (.int 1)) .none)) (.cons (.ife (.val (.cmp .ne (.idx (.idx (.idx (.var 0) (.int 2)) (.var 5)) (.int 1)) (.idx (.idx (.idx (.var 0) (.int 2)) (.var 6)) (.int 1)))) (.cons (.ret (.tup (Es.of [(.str "step"), (.str "tray")]))) (.nil)) (.nil)) (.cons (.ife (.val (.cmp .ne (.idx (.idx (.idx (.var 0) (.int 1)) (.idx (.idx (.idx (.var 0) (.int 2)) (.var 5)) (.int 1))) (.int 1)) (.str "any"))) (.cons (.ret (.tup (Es.of [(.str "step"), (.str "manner")]))) (.nil)) (.nil)) (.cons (.asg (.name 7) (.newLst (.var 3))) (.cons (.setp (.var 7) (.var 5) (.var 7) (.var 6) (.idx (.var 3) (.var 6)) (.idx (.var 3) (.var 5))) (.cons (.ret (.b1 .tup (.var 7))) (.nil))))))) (.nil)) (.cons (.asg (.tup (Gs.of [(.name 8), (.name 9)])) (.slc (.var 2) (.some (.int 1)) .none)) (.cons (.par 10 11 (.idx (.idx (.idx (.var 0) (.int 1)) (.var 8)) (.int 1)) (.lc (.name 12) (.rng1 (.b1 .len (.var 3))) b506_3 b506_2 [12])) (.cons (.ife (.val (.cmp .notin (.var 10) (.tup (Es.of [(.str "ring"), (.str "turn")])))) (.cons (.ret (.tup (Es.of [(.str "step"), (.str "manner")]))) (.nil)) (.nil)) (.cons (.asg (.name 7) (.newLst (.var 3))) (.cons (.for_ (.name 12) (.rng1 (.b1 .len (.var 11))) b506_1) (.cons (.ret (.b1 .tup (.var 7))) (.nil))))))))))
/-- _law_told: 0 table, 1 deed, 2 error -/
def b507 : Ss := .cons (.try_ (.cons (.ife (.val (.cmp .eq (.idx (.var 1) (.int 0)) (.str "lay"))) (.cons (.retX (.tup (Xs.of [(.e (.str "told")), (.meth "Table" "lay" 16 (.var 0) (Es.of [(.idx (.var 1) (.int 1))]))]))) (.nil)) (.nil)) (.cons (.ife (.val (.cmp .eq (.idx (.var 1) (.int 0)) (.str "exchange"))) (.cons (.retX (.tup (Xs.of [(.e (.str "told")), (.meth "Table" "exchange" 17 (.var 0) (Es.of [(.idx (.var 1) (.int 1)), (.idx (.var 1) (.int 2))]))]))) (.nil)) (.nil)) (.cons (.retX (.tup (Xs.of [(.e (.str "told")), (.ife (.val (.cmp .eq (.idx (.var 1) (.int 0)) (.str "turn"))) (.meth "Table" "turn" 18 (.var 0) (Es.of [(.idx (.var 1) (.int 1)), (.idx (.var 1) (.int 2))])) (.meth "Table" "back" 19 (.var 0) .nil))]))) (.nil)))) [⟨"BadRow", (some 2), (.tup (HEs.of [(.e (.str "row")), (.xf "at")]))⟩, ⟨"BadStep", (some 2), (.tup (HEs.of [(.e (.str "step")), (.xf "word")]))⟩, ⟨"NoSuch", (some 2), (.tup (HEs.of [(.e (.str "none")), (.xf "word"), (.xf "name")]))⟩, ⟨"HoweverError", none, (.e (.tup (Es.of [(.str "other")])))⟩]) (.nil)
/-- _law_deed: 0 cloth, 1 setting, 2 many, 3 way, 4 laying, 5 odd, 6 turns, 7 place -/
def b508_1 : E := (.bin .sub (.var 7) (.int 1))
def b508 : Ss := .cons (.asg (.name 2) (.b1 .len (.idx (.var 1) (.int 2)))) (.cons (.asg (.name 3) (.call false 501 (Es.of [(.var 0), (.str "deed"), (.int 11)]))) (.cons (.ife (.val (.cmp .lt (.var 3) (.int 3))) (.cons (.asg (.name 4) (.call false 504 (Es.of [(.var 0), (.var 1)]))) (.cons (.asg (.name 5) (.tup (Es.of [.non, (.int 5), (.str "x"), (.b1 .lst (.var 4)), (.slc (.var 4) .none (.some (.int (-1)))), (.bin .add (.var 4) (.tup (Es.of [(.int 0)]))), (.rev (.var 4)), (.bin .mul (.tup (Es.of [(.bl true)])) (.var 2)), (.bin .mul (.tup (Es.of [(.str "0")])) (.var 2)), (.bin .mul (.tup (Es.of [(.int 0)])) (.var 2)), (.b1 .tup (.lc (.name 7) (.seq (.var 4)) .yes b508_1 [7])), (.rev (.tupRg (.var 2)))]))) (.cons (.ret (.tup (Es.of [(.str "lay"), (.ife (.val (.cmp .eq (.var 3) (.int 2))) (.idx (.var 5) (.call false 501 (Es.of [(.var 0), (.str "odd"), (.int 12)]))) (.var 4))]))) (.nil)))) (.nil)) (.cons (.ife (.val (.cmp .lt (.var 3) (.int 6))) (.cons (.ret (.tup (Es.of [(.str "exchange"), (.call false 501 (Es.of [(.var 0), (.str "one"), (.var 2)])), (.call false 501 (Es.of [(.var 0), (.str "two"), (.var 2)]))]))) (.nil)) (.nil)) (.cons (.ife (.val (.cmp .lt (.var 3) (.int 9))) (.cons (.asg (.name 6) (.tup (Es.of [(.int 0), (.int 1), (.int (-1)), (.int 2), (.int (-2)), (.int 3), (.int 7), (.bin .pow (.int 10) (.int 30)), (.bin .sub (.bin .sub (.int 0) (.bin .pow (.int 10) (.int 25))) (.int 1))]))) (.cons (.ret (.tup (Es.of [(.str "turn"), (.call false 501 (Es.of [(.var 0), (.str "tray turned"), (.b1 .len (.idx (.var 1) (.int 1)))])), (.idx (.var 6) (.call false 501 (Es.of [(.var 0), (.str "by"), (.int 9)])))]))) (.nil))) (.nil)) (.cons (.ret (.tup (Es.of [(.str "back")]))) (.nil))))))
/-- _law_stands: 0 table, 1 row, 2 state, 3 now, 4 place -/
def b509_1 : E := (.idx (.var 1) (.var 4))
def b509 : Ss := .cons (.asg (.name 3) (.idx (.var 2) (.int (-1)))) (.cons (.ret (.call true 502 (Es.of [(.tup (Es.of [(.meth "Table" "row" 20 (.var 0) .nil), (.meth "Table" "laying" 21 (.var 0) .nil), (.meth "Table" "deeds" 22 (.var 0) .nil)])), (.tup (Es.of [(.b1 .tup (.lc (.name 4) (.seq (.var 3)) .yes b509_1 [4])), (.var 3), (.bin .sub (.b1 .len (.var 2)) (.int 1))]))]))) (.nil))
/-- _law_session: 0 cloth, 1 lots, 2 side, 3 setting, 4 row, 5 lap, 6 table, 7 state, 8 deed, 9 due, 10 raised, 11 place -/
def b510_1 : Ss := .cons (.ife (.not (.tru (.call true 502 (Es.of [(.call false 507 (Es.of [(.var 6), (.tup (Es.of [(.str "back")]))])), (.ife (.val (.cmp .gt (.b1 .len (.var 7)) (.int 1))) (.tup (Es.of [(.str "told"), .non])) (.tup (Es.of [(.str "none"), (.str "deed"), (.str "")])))])))) (.cons (.ret (.bl false)) (.nil)) (.nil)) (.cons (.ife (.val (.cmp .gt (.b1 .len (.var 7)) (.int 1))) (.cons (.expr (.pop (.var 7))) (.nil)) (.nil)) (.cons (.ife (.not (.tru (.call false 509 (Es.of [(.var 6), (.var 4), (.var 7)])))) (.cons (.ret (.bl false)) (.nil)) (.nil)) (.nil)))
def b510_2 : Ss := .cons (.for_ (.name 5) (.rng1 (.b1 .len (.var 7))) b510_1) (.nil)
def b510_3 : Ss := .cons (.asg (.tup (Gs.of [(.name 6), (.name 3), (.name 4), (.name 7)])) (.idx (.var 1) (.call false 501 (Es.of [(.var 0), (.str "which"), (.int 2)])))) (.cons (.asg (.name 8) (.call false 508 (Es.of [(.var 0), (.var 3)]))) (.cons (.asg (.name 9) (.call false 506 (Es.of [(.var 3), (.var 7), (.var 8)]))) (.cons (.asg (.name 10) (.and (.cmp .notN (.var 9) .non) (.isI (.idx (.var 9) (.int 0)) .str))) (.cons (.ife (.not (.tru (.call true 502 (Es.of [(.call false 507 (Es.of [(.var 6), (.var 8)])), (.ife (.tru (.var 10)) (.var 9) (.tup (Es.of [(.str "told"), .non])))])))) (.cons (.ret (.bl false)) (.nil)) (.nil)) (.cons (.ife (.and (.val (.cmp .eq (.idx (.var 8) (.int 0)) (.str "back"))) (.not (.tru (.var 10)))) (.cons (.expr (.pop (.var 7))) (.nil)) (.cons (.ife (.not (.tru (.var 10))) (.cons (.expr (.app (.var 7) (.var 9))) (.nil)) (.nil)) (.nil))) (.cons (.ife (.or (.not (.tru (.call false 509 (Es.of [(.var 6), (.var 4), (.var 7)])))) (.and (.val (.cmp .eq (.bin .mod (.var 5) (.int 8)) (.int 7))) (.not (.tru (.call false 509 (Es.of [(.idx (.idx (.var 1) (.int 0)) (.int 0)), (.idx (.idx (.var 1) (.int 0)) (.int 2)), (.idx (.idx (.var 1) (.int 0)) (.int 3))])))))) (.cons (.ret (.bl false)) (.nil)) (.nil)) (.cons (.ife (.and (.val (.cmp .eq (.idx (.var 8) (.int 0)) (.str "lay"))) (.not (.tru (.call true 502 (Es.of [(.call true 8 (Es.of [(.var 3), (.idx (.var 8) (.int 1))])), (.not (.var 10))]))))) (.cons (.ret (.bl false)) (.nil)) (.nil)) (.cons (.ife (.and (.not (.tru (.var 10))) (.and (.val (.cmp .eq (.idx (.var 8) (.int 0)) (.str "lay"))) (.not (.tru (.call true 502 (Es.of [(.tup (Es.of [(.call true 9 (Es.of [(.var 3), (.idx (.var 8) (.int 1))])), (.call true 12 (Es.of [(.idx (.var 7) (.int (-2))), (.idx (.var 8) (.int 1))])), (.call true 11 (Es.of [(.var 4), (.idx (.var 7) (.int (-1)))]))])), (.tup (Es.of [(.b1 .len (.var 4)), (.idx (.var 7) (.int (-1))), (.meth "Table" "row" 20 (.var 6) .nil)]))])))))) (.cons (.ret (.bl false)) (.nil)) (.nil)) (.nil)))))))))
def b510_4 : E := (.call false 501 (Es.of [(.var 0), (.str "lies"), (.b1 .len (.idx (.var 3) (.int 0)))]))
def b510_5 : Ss := .cons (.asg (.name 3) (.ife (.or (.val (.cmp .eq (.var 2) (.int 0))) (.val (.cmp .eq (.call false 501 (Es.of [(.var 0), (.str "other"), (.int 2)])) (.int 0)))) (.call false 503 (Es.of [(.var 0), (.int 8)])) (.idx (.idx (.var 1) (.int 0)) (.int 1)))) (.cons (.asg (.name 4) (.b1 .tup (.lc (.name 11) (.seq (.idx (.var 3) (.int 2))) .yes b510_4 [11]))) (.cons (.expr (.app (.var 1) (.tup (Es.of [(.mk "Table" 14 (Es.of [(.var 3), (.var 4)])), (.var 3), (.var 4), (.newL (Es.of [(.tupRg (.b1 .len (.var 4)))]))])))) (.nil)))
def b510 : Ss := .cons (.asg (.name 1) (.newL .nil)) (.cons (.for_ (.name 2) (.rng1 (.int 2)) b510_5) (.cons (.for_ (.name 5) (.rng1 (.int 25)) b510_3) (.frz 1 (.cons (.for_ (.tup (Gs.of [(.name 6), (.name 3), (.name 4), (.name 7)])) (.seq (.var 1)) b510_2) (.cons (.ret (.bl true)) (.nil))))))
/-- _law_hand: 0 setting, 1 table, 2 told, 3 due, 4 strip, 5 more, 6 rest -/
def b511 : Ss := .cons (.asg (.name 0) (.tup (Es.of [(.tup (Es.of [(.str "red"), (.str "blue")])), (.tup (Es.of [(.tup (Es.of [(.str "bag"), (.str "any")])), (.tup (Es.of [(.str "wreath"), (.str "ring")]))])), (.tup (Es.of [(.tup (Es.of [(.str "b1"), (.int 0)])), (.tup (Es.of [(.str "b2"), (.int 0)])), (.tup (Es.of [(.str "b3"), (.int 0)])), (.tup (Es.of [(.str "w1"), (.int 1)])), (.tup (Es.of [(.str "w2"), (.int 1)])), (.tup (Es.of [(.str "w3"), (.int 1)]))]))]))) (.cons (.asg (.name 1) (.mkK "Table" 14 [0, 2, 1] .nil (Es.of [(.tup (Es.of [(.int 0), (.int 1), (.int 0), (.int 1), (.int 0), (.int 1)])), (.var 0)]))) (.cons (.asg (.name 2) (.lst (Es.of [(.call false 507 (Es.of [(.var 1), (.tup (Es.of [(.str "turn"), (.int 1), (.int (-2))]))])), (.call false 507 (Es.of [(.var 1), (.tup (Es.of [(.str "exchange"), (.int 0), (.int 1)]))])), (.meth "Table" "row" 20 (.var 1) .nil), (.meth "Table" "laying" 21 (.var 1) .nil), (.meth "Table" "deeds" 22 (.var 1) .nil), (.call false 507 (Es.of [(.var 1), (.tup (Es.of [(.str "exchange"), (.int 2), (.int 3)]))])), (.call false 507 (Es.of [(.var 1), (.tup (Es.of [(.str "exchange"), (.int 3), (.int 4)]))])), (.call false 507 (Es.of [(.var 1), (.tup (Es.of [(.str "turn"), (.int 0), (.int 0)]))])), (.methK "Table" "exchange" 17 [0, 1, 2] (.var 1) .nil (Es.of [(.int 2), (.int 2)])), (.meth "Table" "deeds" 22 (.var 1) .nil), (.methK "Table" "turn" 18 [0, 1, 2] (.var 1) .nil (Es.of [(.int 1), (.int 3)])), (.meth "Table" "back" 19 (.var 1) .nil), (.meth "Table" "back" 19 (.var 1) .nil), (.meth "Table" "back" 19 (.var 1) .nil), (.meth "Table" "laying" 21 (.var 1) .nil), (.methK "Table" "lay" 16 [0, 1] (.var 1) .nil (Es.of [(.tup (Es.of [(.int 2), (.int 1), (.int 0), (.int 5), (.int 3), (.int 4)]))])), (.meth "Table" "row" 20 (.var 1) .nil)]))) (.cons (.asg (.name 3) (.lst (Es.of [(.tup (Es.of [(.str "told"), .non])), (.tup (Es.of [(.str "told"), .non])), (.tup (Es.of [(.int 1), (.int 0), (.int 0), (.int 0), (.int 1), (.int 1)])), (.tup (Es.of [(.int 1), (.int 0), (.int 2), (.int 4), (.int 5), (.int 3)])), (.int 2), (.tup (Es.of [(.str "step"), (.str "tray")])), (.tup (Es.of [(.str "step"), (.str "manner")])), (.tup (Es.of [(.str "step"), (.str "manner")])), .non, (.int 3), .non, .non, .non, .non, (.tup (Es.of [(.int 0), (.int 1), (.int 2), (.int 4), (.int 5), (.int 3)])), .non, (.tup (Es.of [(.int 0), (.int 1), (.int 0), (.int 1), (.int 0), (.int 1)]))]))) (.cons (.asg (.name 4) (.mk "Table" 14 (Es.of [(.tup (Es.of [(.tup (Es.of [(.str "a"), (.str "b")])), (.tup (Es.of [(.tup (Es.of [(.str "t"), (.str "turn")])), (.tup (Es.of [(.str "e"), (.str "ring")]))])), (.tup (Es.of [(.tup (Es.of [(.str "x"), (.int 0)])), (.tup (Es.of [(.str "y"), (.int 0)])), (.tup (Es.of [(.str "z"), (.int 0)]))]))])), (.tup (Es.of [(.int 0), (.int 0), (.int 1)]))]))) (.cons (.asg (.name 5) (.lst (Es.of [(.meth "Table" "turn" 18 (.var 4) (Es.of [(.int 0), (.int (-3))])), (.meth "Table" "row" 20 (.var 4) .nil), (.meth "Table" "turn" 18 (.var 4) (Es.of [(.int 0), (.int 2)])), (.meth "Table" "row" 20 (.var 4) .nil), (.meth "Table" "turn" 18 (.var 4) (Es.of [(.int 1), (.int 5)])), (.meth "Table" "deeds" 22 (.var 4) .nil), (.call false 507 (Es.of [(.var 4), (.tup (Es.of [(.str "lay"), (.tup (Es.of [(.int 2), (.int 1), (.int 0)]))]))])), (.meth "Table" "row" 20 (.var 4) .nil), (.meth "Table" "laying" 21 (.var 4) .nil)]))) (.cons (.asg (.name 6) (.lst (Es.of [.non, (.tup (Es.of [(.int 1), (.int 0), (.int 0)])), .non, (.tup (Es.of [(.int 1), (.int 0), (.int 0)])), .non, (.int 3), (.tup (Es.of [(.str "told"), .non])), (.tup (Es.of [(.int 0), (.int 0), (.int 1)])), (.tup (Es.of [(.int 0), (.int 1), (.int 2)]))]))) (.cons (.ret (.and (.call true 502 (Es.of [(.var 2), (.var 3)])) (.call true 502 (Es.of [(.var 5), (.var 6)])))) (.nil))))))))
/-- law: 0 script -/
def b512 : Ss := .cons (.ret (.and (.call true 511 .nil) (.call false 510 (Es.of [(.call false 500 (Es.of [(.var 0)]))])))) (.nil)
def LD : Nat → Option Df
  | 0 => some ⟨1, 5, b500⟩
  | 1 => some ⟨3, 5, b501⟩
  | 2 => some ⟨2, 6, b502⟩
  | 3 => some ⟨2, 10, b503⟩
  | 4 => some ⟨2, 9, b504⟩
  | 5 => some ⟨2, 9, b505⟩
  | 6 => some ⟨3, 16, b506⟩
  | 7 => some ⟨2, 3, b507⟩
  | 8 => some ⟨2, 8, b508⟩
  | 9 => some ⟨3, 5, b509⟩
  | 10 => some ⟨1, 12, b510⟩
  | 11 => some ⟨0, 7, b511⟩
  | 12 => some ⟨1, 1, b512⟩
  | _ => none
/-- the exceptions' classes: (class, clause, is it one) -/
def subT : List (Str × Str × Bool) := [("BadRow", "BadRow", true), ("BadRow", "BadStep", false), ("BadRow", "HoweverError", true), ("BadRow", "NoSuch", false), ("BadStep", "BadRow", false), ("BadStep", "BadStep", true), ("BadStep", "HoweverError", true), ("BadStep", "NoSuch", false), ("NoSuch", "BadRow", false), ("NoSuch", "BadStep", false), ("NoSuch", "HoweverError", true), ("NoSuch", "NoSuch", true)]
def subF (a h : Str) : Option Bool := (subT.find? fun t => decide (t.1 = a) && decide (t.2.1 = h)).map (·.2.2)
def PD : Pr := ⟨fun i => if i < 500 then PG.PG i else LD (i - 500), subF⟩
theorem ext : Ext PD := ⟨fun i h => if_pos h⟩
theorem go500 (k : Nat) (a : D) (s : Sto) : run PD WF (k + 1) 500 [a] s = fin (exSs (CC PD WF k s.length) b500 [some a, none, none, none, none] s) := go (f := ⟨1, 5, b500⟩) rfl rfl
theorem goX500 (k : Nat) (a : D) (s : Sto) : runX PD WF (k + 1) 500 [a] s = finX (exSs (CC PD WF k s.length) b500 [some a, none, none, none, none] s) := goX (f := ⟨1, 5, b500⟩) rfl rfl
theorem go501 (k : Nat) (a b c : D) (s : Sto) : run PD WF (k + 1) 501 [a, b, c] s = fin (exSs (CC PD WF k s.length) b501 [some a, some b, some c, none, none] s) := go (f := ⟨3, 5, b501⟩) rfl rfl
theorem goX501 (k : Nat) (a b c : D) (s : Sto) : runX PD WF (k + 1) 501 [a, b, c] s = finX (exSs (CC PD WF k s.length) b501 [some a, some b, some c, none, none] s) := goX (f := ⟨3, 5, b501⟩) rfl rfl
theorem go502 (k : Nat) (a b : D) (s : Sto) : run PD WF (k + 1) 502 [a, b] s = fin (exSs (CC PD WF k s.length) b502 [some a, some b, none, none, none, none] s) := go (f := ⟨2, 6, b502⟩) rfl rfl
theorem goX502 (k : Nat) (a b : D) (s : Sto) : runX PD WF (k + 1) 502 [a, b] s = finX (exSs (CC PD WF k s.length) b502 [some a, some b, none, none, none, none] s) := goX (f := ⟨2, 6, b502⟩) rfl rfl
theorem go503 (k : Nat) (a b : D) (s : Sto) : run PD WF (k + 1) 503 [a, b] s = fin (exSs (CC PD WF k s.length) b503 [some a, some b, none, none, none, none, none, none, none, none] s) := go (f := ⟨2, 10, b503⟩) rfl rfl
theorem goX503 (k : Nat) (a b : D) (s : Sto) : runX PD WF (k + 1) 503 [a, b] s = finX (exSs (CC PD WF k s.length) b503 [some a, some b, none, none, none, none, none, none, none, none] s) := goX (f := ⟨2, 10, b503⟩) rfl rfl
theorem go504 (k : Nat) (a b : D) (s : Sto) : run PD WF (k + 1) 504 [a, b] s = fin (exSs (CC PD WF k s.length) b504 [some a, some b, none, none, none, none, none, none, none] s) := go (f := ⟨2, 9, b504⟩) rfl rfl
theorem goX504 (k : Nat) (a b : D) (s : Sto) : runX PD WF (k + 1) 504 [a, b] s = finX (exSs (CC PD WF k s.length) b504 [some a, some b, none, none, none, none, none, none, none] s) := goX (f := ⟨2, 9, b504⟩) rfl rfl
theorem go505 (k : Nat) (a b : D) (s : Sto) : run PD WF (k + 1) 505 [a, b] s = fin (exSs (CC PD WF k s.length) b505 [some a, some b, none, none, none, none, none, none, none] s) := go (f := ⟨2, 9, b505⟩) rfl rfl
theorem goX505 (k : Nat) (a b : D) (s : Sto) : runX PD WF (k + 1) 505 [a, b] s = finX (exSs (CC PD WF k s.length) b505 [some a, some b, none, none, none, none, none, none, none] s) := goX (f := ⟨2, 9, b505⟩) rfl rfl
theorem go506 (k : Nat) (a b c : D) (s : Sto) : run PD WF (k + 1) 506 [a, b, c] s = fin (exSs (CC PD WF k s.length) b506 [some a, some b, some c, none, none, none, none, none, none, none, none, none, none, none, none, none] s) := go (f := ⟨3, 16, b506⟩) rfl rfl
theorem goX506 (k : Nat) (a b c : D) (s : Sto) : runX PD WF (k + 1) 506 [a, b, c] s = finX (exSs (CC PD WF k s.length) b506 [some a, some b, some c, none, none, none, none, none, none, none, none, none, none, none, none, none] s) := goX (f := ⟨3, 16, b506⟩) rfl rfl
theorem go507 (k : Nat) (a b : D) (s : Sto) : run PD WF (k + 1) 507 [a, b] s = fin (exSs (CC PD WF k s.length) b507 [some a, some b, none] s) := go (f := ⟨2, 3, b507⟩) rfl rfl
theorem goX507 (k : Nat) (a b : D) (s : Sto) : runX PD WF (k + 1) 507 [a, b] s = finX (exSs (CC PD WF k s.length) b507 [some a, some b, none] s) := goX (f := ⟨2, 3, b507⟩) rfl rfl
theorem go508 (k : Nat) (a b : D) (s : Sto) : run PD WF (k + 1) 508 [a, b] s = fin (exSs (CC PD WF k s.length) b508 [some a, some b, none, none, none, none, none, none] s) := go (f := ⟨2, 8, b508⟩) rfl rfl
theorem goX508 (k : Nat) (a b : D) (s : Sto) : runX PD WF (k + 1) 508 [a, b] s = finX (exSs (CC PD WF k s.length) b508 [some a, some b, none, none, none, none, none, none] s) := goX (f := ⟨2, 8, b508⟩) rfl rfl
theorem go509 (k : Nat) (a b c : D) (s : Sto) : run PD WF (k + 1) 509 [a, b, c] s = fin (exSs (CC PD WF k s.length) b509 [some a, some b, some c, none, none] s) := go (f := ⟨3, 5, b509⟩) rfl rfl
theorem goX509 (k : Nat) (a b c : D) (s : Sto) : runX PD WF (k + 1) 509 [a, b, c] s = finX (exSs (CC PD WF k s.length) b509 [some a, some b, some c, none, none] s) := goX (f := ⟨3, 5, b509⟩) rfl rfl
theorem go510 (k : Nat) (a : D) (s : Sto) : run PD WF (k + 1) 510 [a] s = fin (exSs (CC PD WF k s.length) b510 [some a, none, none, none, none, none, none, none, none, none, none, none] s) := go (f := ⟨1, 12, b510⟩) rfl rfl
theorem goX510 (k : Nat) (a : D) (s : Sto) : runX PD WF (k + 1) 510 [a] s = finX (exSs (CC PD WF k s.length) b510 [some a, none, none, none, none, none, none, none, none, none, none, none] s) := goX (f := ⟨1, 12, b510⟩) rfl rfl
theorem go511 (k : Nat) (s : Sto) : run PD WF (k + 1) 511 [] s = fin (exSs (CC PD WF k s.length) b511 [none, none, none, none, none, none, none] s) := go (f := ⟨0, 7, b511⟩) rfl rfl
theorem goX511 (k : Nat) (s : Sto) : runX PD WF (k + 1) 511 [] s = finX (exSs (CC PD WF k s.length) b511 [none, none, none, none, none, none, none] s) := goX (f := ⟨0, 7, b511⟩) rfl rfl
theorem go512 (k : Nat) (a : D) (s : Sto) : run PD WF (k + 1) 512 [a] s = fin (exSs (CC PD WF k s.length) b512 [some a] s) := go (f := ⟨1, 1, b512⟩) rfl rfl
theorem goX512 (k : Nat) (a : D) (s : Sto) : runX PD WF (k + 1) 512 [a] s = finX (exSs (CC PD WF k s.length) b512 [some a] s) := goX (f := ⟨1, 1, b512⟩) rfl rfl
end K93

/-! K93: the text keeps what the evaluator says (printed by gen2.py) -/
namespace K93
open PySem PySem.Spec PyProof.Rows L2 Fw PG
def topS (i : Nat) : Stmt := PySem.Challenge.pw_howeverlaid_k93_whole_tables.main.body.getD i (.Pass ⟨0, 0, 0, 0⟩)
abbrev tp0 : Stmt := topS 9
abbrev Nm0 : List Str := ["thing"]
theorem sc0 : FnScope Nm0 ["thing"] (defScope tp0) := ⟨rfl, rfl, rfl, by decide +kernel, rfl, by decide +kernel, by decide +kernel⟩
abbrev tp1 : Stmt := topS 10
abbrev Nm1 : List Str := ["thing", "many"]
theorem sc1 : FnScope Nm1 ["thing", "many"] (defScope tp1) := ⟨rfl, rfl, rfl, by decide +kernel, rfl, by decide +kernel, by decide +kernel⟩
abbrev tp2 : Stmt := topS 11
abbrev Nm2 : List Str := ["thing", "part"]
theorem sc2 : FnScope Nm2 ["thing"] (defScope tp2) := ⟨rfl, rfl, rfl, by decide +kernel, rfl, by decide +kernel, by decide +kernel⟩
abbrev tp3 : Stmt := topS 13
abbrev Nm3 : List Str := ["setting", "tray", "number", "place"]
theorem sc3 : FnScope Nm3 ["setting", "tray"] (defScope tp3) := ⟨rfl, rfl, rfl, by decide +kernel, rfl, by decide +kernel, by decide +kernel⟩
abbrev tp4 : Stmt := topS 14
abbrev Nm4 : List Str := ["setting", "number", "tray"]
theorem sc4 : FnScope Nm4 ["setting"] (defScope tp4) := ⟨rfl, rfl, rfl, by decide +kernel, rfl, by decide +kernel, by decide +kernel⟩
abbrev tp5 : Stmt := topS 16
abbrev Nm5 : List Str := ["part", "many", "at"]
theorem sc5 : FnScope Nm5 ["part", "many"] (defScope tp5) := ⟨rfl, rfl, rfl, by decide +kernel, rfl, by decide +kernel, by decide +kernel⟩
abbrev tp6 : Stmt := topS 17
abbrev Nm6 : List Str := ["manner", "part", "many"]
theorem sc6 : FnScope Nm6 ["manner", "part"] (defScope tp6) := ⟨rfl, rfl, rfl, by decide +kernel, rfl, by decide +kernel, by decide +kernel⟩
abbrev tp7 : Stmt := topS 18
abbrev Nm7 : List Str := ["manner", "part", "told"]
theorem sc7 : FnScope Nm7 ["manner", "part", "told"] (defScope tp7) := ⟨rfl, rfl, rfl, by decide +kernel, rfl, by decide +kernel, by decide +kernel⟩
abbrev tp8 : Stmt := topS 19
abbrev Nm8 : List Str := ["setting", "thing", "manner", "part", "place"]
theorem sc8 : FnScope Nm8 ["setting", "thing"] (defScope tp8) := ⟨rfl, rfl, rfl, by decide +kernel, rfl, by decide +kernel, by decide +kernel⟩
abbrev tp9 : Stmt := topS 20
abbrev Nm9 : List Str := ["setting", "thing"]
theorem sc9 : FnScope Nm9 ["setting", "thing"] (defScope tp9) := ⟨rfl, rfl, rfl, by decide +kernel, rfl, by decide +kernel, by decide +kernel⟩
abbrev tp10 : Stmt := topS 21
abbrev Nm10 : List Str := ["setting"]
theorem sc10 : FnScope Nm10 ["setting"] (defScope tp10) := ⟨rfl, rfl, rfl, by decide +kernel, rfl, by decide +kernel, by decide +kernel⟩
abbrev tp11 : Stmt := topS 22
abbrev Nm11 : List Str := ["row", "laying", "place"]
theorem sc11 : FnScope Nm11 ["row", "laying"] (defScope tp11) := ⟨rfl, rfl, rfl, by decide +kernel, rfl, by decide +kernel, by decide +kernel⟩
abbrev tp12 : Stmt := topS 23
abbrev Nm12 : List Str := ["one", "other", "place"]
theorem sc12 : FnScope Nm12 ["one", "other"] (defScope tp12) := ⟨rfl, rfl, rfl, by decide +kernel, rfl, by decide +kernel, by decide +kernel⟩
abbrev tp13 : Stmt := topS 24
abbrev Nm13 : List Str := ["setting", "parts", "found", "_", "part", "told", "place", "source"]
theorem sc13 : FnScope Nm13 ["setting", "parts"] (defScope tp13) := ⟨rfl, rfl, rfl, by decide +kernel, rfl, by decide +kernel, by decide +kernel⟩
abbrev tp14 : Stmt := inClass (topS 26) 0
abbrev Nm14 : List Str := ["self", "setting", "row"]
theorem sc14 : FnScope Nm14 ["self", "setting", "row"] (defScope tp14) := ⟨rfl, rfl, rfl, by decide +kernel, rfl, by decide +kernel, by decide +kernel⟩
abbrev tp15 : Stmt := inClass (topS 26) 1
abbrev Nm15 : List Str := ["self", "laying"]
theorem sc15 : FnScope Nm15 ["self", "laying"] (defScope tp15) := ⟨rfl, rfl, rfl, by decide +kernel, rfl, by decide +kernel, by decide +kernel⟩
abbrev tp16 : Stmt := inClass (topS 26) 2
abbrev Nm16 : List Str := ["self", "laying"]
theorem sc16 : FnScope Nm16 ["self", "laying"] (defScope tp16) := ⟨rfl, rfl, rfl, by decide +kernel, rfl, by decide +kernel, by decide +kernel⟩
abbrev tp17 : Stmt := inClass (topS 26) 3
abbrev Nm17 : List Str := ["self", "one", "other", "trays", "told", "place"]
theorem sc17 : FnScope Nm17 ["self", "one", "other"] (defScope tp17) := ⟨rfl, rfl, rfl, by decide +kernel, rfl, by decide +kernel, by decide +kernel⟩
abbrev tp18 : Stmt := inClass (topS 26) 4
abbrev Nm18 : List Str := ["self", "tray", "many", "trays", "manner", "part", "layings", "parts", "_", "own"]
theorem sc18 : FnScope Nm18 ["self", "tray", "many"] (defScope tp18) := ⟨rfl, rfl, rfl, by decide +kernel, rfl, by decide +kernel, by decide +kernel⟩
abbrev tp19 : Stmt := inClass (topS 26) 5
abbrev Nm19 : List Str := ["self"]
theorem sc19 : FnScope Nm19 ["self"] (defScope tp19) := ⟨rfl, rfl, rfl, by decide +kernel, rfl, by decide +kernel, by decide +kernel⟩
abbrev tp20 : Stmt := inClass (topS 26) 6
abbrev Nm20 : List Str := ["self"]
theorem sc20 : FnScope Nm20 ["self"] (defScope tp20) := ⟨rfl, rfl, rfl, by decide +kernel, rfl, by decide +kernel, by decide +kernel⟩
abbrev tp21 : Stmt := inClass (topS 26) 7
abbrev Nm21 : List Str := ["self"]
theorem sc21 : FnScope Nm21 ["self"] (defScope tp21) := ⟨rfl, rfl, rfl, by decide +kernel, rfl, by decide +kernel, by decide +kernel⟩
abbrev tp22 : Stmt := inClass (topS 26) 8
abbrev Nm22 : List Str := ["self"]
theorem sc22 : FnScope Nm22 ["self"] (defScope tp22) := ⟨rfl, rfl, rfl, by decide +kernel, rfl, by decide +kernel, by decide +kernel⟩
abbrev tp500 : Stmt := topS 28
abbrev Nm500 : List Str := ["script", "great", "mixed", "cell", "size"]
theorem sc500 : FnScope Nm500 ["script"] (defScope tp500) := ⟨rfl, rfl, rfl, by decide +kernel, rfl, by decide +kernel, by decide +kernel⟩
abbrev tp501 : Stmt := topS 29
abbrev Nm501 : List Str := ["cloth", "place", "many", "size", "wont"]
theorem sc501 : FnScope Nm501 ["cloth", "place", "many"] (defScope tp501) := ⟨rfl, rfl, rfl, by decide +kernel, rfl, by decide +kernel, by decide +kernel⟩
abbrev tp502 : Stmt := topS 30
abbrev Nm502 : List Str := ["told", "due", "work", "one", "other", "at"]
theorem sc502 : FnScope Nm502 ["told", "due"] (defScope tp502) := ⟨rfl, rfl, rfl, by decide +kernel, rfl, by decide +kernel, by decide +kernel⟩
abbrev tp503 : Stmt := topS 31
abbrev Nm503 : List Str := ["cloth", "most", "many", "marks", "turn", "trays", "at", "names", "pool", "places"]
theorem sc503 : FnScope Nm503 ["cloth", "most"] (defScope tp503) := ⟨rfl, rfl, rfl, by decide +kernel, rfl, by decide +kernel, by decide +kernel⟩
abbrev tp504 : Stmt := topS 32
abbrev Nm504 : List Str := ["cloth", "setting", "told", "tray", "places", "manner", "row", "left", "at"]
theorem sc504 : FnScope Nm504 ["cloth", "setting"] (defScope tp504) := ⟨rfl, rfl, rfl, by decide +kernel, rfl, by decide +kernel, by decide +kernel⟩
abbrev tp505 : Stmt := topS 33
abbrev Nm505 : List Str := ["setting", "thing", "many", "tray", "places", "row", "manner", "place", "at"]
theorem sc505 : FnScope Nm505 ["setting", "thing"] (defScope tp505) := ⟨rfl, rfl, rfl, by decide +kernel, rfl, by decide +kernel, by decide +kernel⟩
abbrev tp506 : Stmt := topS 34
abbrev Nm506 : List Str := ["setting", "state", "deed", "now", "word", "one", "other", "told", "tray", "many", "manner", "places", "at", "back", "from_at", "place"]
theorem sc506 : FnScope Nm506 ["setting", "state", "deed"] (defScope tp506) := ⟨rfl, rfl, rfl, by decide +kernel, rfl, by decide +kernel, by decide +kernel⟩
abbrev tp507 : Stmt := topS 35
abbrev Nm507 : List Str := ["table", "deed", "error"]
theorem sc507 : FnScope Nm507 ["table", "deed"] (defScope tp507) := ⟨rfl, rfl, rfl, by decide +kernel, rfl, by decide +kernel, by decide +kernel⟩
abbrev tp508 : Stmt := topS 36
abbrev Nm508 : List Str := ["cloth", "setting", "many", "way", "laying", "odd", "turns", "place"]
theorem sc508 : FnScope Nm508 ["cloth", "setting"] (defScope tp508) := ⟨rfl, rfl, rfl, by decide +kernel, rfl, by decide +kernel, by decide +kernel⟩
abbrev tp509 : Stmt := topS 37
abbrev Nm509 : List Str := ["table", "row", "state", "now", "place"]
theorem sc509 : FnScope Nm509 ["table", "row", "state"] (defScope tp509) := ⟨rfl, rfl, rfl, by decide +kernel, rfl, by decide +kernel, by decide +kernel⟩
abbrev tp510 : Stmt := topS 38
abbrev Nm510 : List Str := ["cloth", "lots", "side", "setting", "row", "lap", "table", "state", "deed", "due", "raised", "place"]
theorem sc510 : FnScope Nm510 ["cloth"] (defScope tp510) := ⟨rfl, rfl, rfl, by decide +kernel, rfl, by decide +kernel, by decide +kernel⟩
abbrev tp511 : Stmt := topS 39
abbrev Nm511 : List Str := ["setting", "table", "told", "due", "strip", "more", "rest"]
theorem sc511 : FnScope Nm511 [] (defScope tp511) := ⟨rfl, rfl, rfl, by decide +kernel, rfl, by decide +kernel, by decide +kernel⟩
abbrev tp512 : Stmt := topS 40
abbrev Nm512 : List Str := ["script"]
theorem sc512 : FnScope Nm512 ["script"] (defScope tp512) := ⟨rfl, rfl, rfl, by decide +kernel, rfl, by decide +kernel, by decide +kernel⟩
theorem B_tuple : bootBuiltins "tuple" = some (.type (tyN .tuple)) := by decide +kernel
theorem B_list : bootBuiltins "list" = some (.type (tyN .list)) := by decide +kernel
theorem B_str : bootBuiltins "str" = some (.type (tyN .str)) := by decide +kernel
theorem B_int : bootBuiltins "int" = some (.type (tyN .int)) := by decide +kernel
theorem B_bool : bootBuiltins "bool" = some (.type (tyN .bool)) := by decide +kernel
/-- what is told of the defs at a level, the classes and the builtins -/
structure Fx (P : Program) (w : World) (K : PySem.W.Frag) (mg : Str → Option Value) (base : Heap) : Prop where
  cl_Table : ClsOk K "Table"
  na_Table__layings : NoAttr K (cAd K "Table") "_layings"
  na_Table__row : NoAttr K (cAd K "Table") "_row"
  na_Table__setting : NoAttr K (cAd K "Table") "_setting"
  e_BadRow : FwQ.ErrOk P w K mg base "BadRow" (cAd K "BadRow") ["at"]
  e_BadStep : FwQ.ErrOk P w K mg base "BadStep" (cAd K "BadStep") ["word"]
  e_NoSuch : FwQ.ErrOk P w K mg base "NoSuch" (cAd K "NoSuch") ["word", "name"]
  g_BadRow : mg "BadRow" = some (.ref (cAd K "BadRow"))
  g_BadStep : mg "BadStep" = some (.ref (cAd K "BadStep"))
  g_HoweverError : mg "HoweverError" = some (.ref (cAd K "HoweverError"))
  g_NoSuch : mg "NoSuch" = some (.ref (cAd K "NoSuch"))
  xf_BadRow : XfC K (cAd K "BadRow")
  xf_BadStep : XfC K (cAd K "BadStep")
  xf_NoSuch : XfC K (cAd K "NoSuch")
  no_BadRow_at : PySem.W.findIn K (.ref (cAd K "BadRow")) "at" = some none
  no_BadStep_word : PySem.W.findIn K (.ref (cAd K "BadStep")) "word" = some none
  no_NoSuch_name : PySem.W.findIn K (.ref (cAd K "NoSuch")) "name" = some none
  no_NoSuch_word : PySem.W.findIn K (.ref (cAd K "NoSuch")) "word" = some none
  sub : SubOk K PD
  n_abs : mg "abs" = none
  n_all : mg "all" = none
  n_bool : mg "bool" = none
  n_enumerate : mg "enumerate" = none
  n_int : mg "int" = none
  n_isinstance : mg "isinstance" = none
  n_len : mg "len" = none
  n_list : mg "list" = none
  n_max : mg "max" = none
  n_range : mg "range" = none
  n_sorted : mg "sorted" = none
  n_str : mg "str" = none
  n_tuple : mg "tuple" = none
  n_zip : mg "zip" = none
structure Hyp (P : Program) (w : World) (K : PySem.W.Frag) (mg : Str → Option Value) (base : Heap) (k : Nat) : Prop extends Fx P w K mg base where
  c0 : Ca P w K mg base (2 * k) "is_integer" (SpX K (arOf PD 0) (runX PD WF k 0))
  c1 : Ca P w K mg base (2 * k) "tuple_of" (SpX K (arOf PD 1) (runX PD WF k 1))
  c2 : Ca P w K mg base (2 * k) "are_integers" (SpX K (arOf PD 2) (runX PD WF k 2))
  c3 : Ca P w K mg base (2 * k) "places_of" (SpX K (arOf PD 3) (runX PD WF k 3))
  c4 : Ca P w K mg base (2 * k) "trays_with" (SpX K (arOf PD 4) (runX PD WF k 4))
  c5 : Ca P w K mg base (2 * k) "turned" (SpX K (arOf PD 5) (runX PD WF k 5))
  c6 : Ca P w K mg base (2 * k) "own_layings" (SpX K (arOf PD 6) (runX PD WF k 6))
  c7 : Ca P w K mg base (2 * k) "is_own_laying" (SpX K (arOf PD 7) (runX PD WF k 7))
  c8 : Ca P w K mg base (2 * k) "is_laying" (SpX K (arOf PD 8) (runX PD WF k 8))
  c9 : Ca P w K mg base (2 * k) "check_laying" (SpX K (arOf PD 9) (runX PD WF k 9))
  c10 : Ca P w K mg base (2 * k) "plain_laying" (SpX K (arOf PD 10) (runX PD WF k 10))
  c11 : Ca P w K mg base (2 * k) "laid" (SpX K (arOf PD 11) (runX PD WF k 11))
  c12 : Ca P w K mg base (2 * k) "composed" (SpX K (arOf PD 12) (runX PD WF k 12))
  c13 : Ca P w K mg base (2 * k) "with_parts" (SpX K (arOf PD 13) (runX PD WF k 13))
  m14 : Cm P w K mg base (2 * k) "Table" (SpX K (arOf PD 14) (runX PD WF k 14))
  m15 : Cme P w K mg base (2 * k) "Table" "_lay" (SpX K (arOf PD 15) (runX PD WF k 15))
  m16 : Cme P w K mg base (2 * k) "Table" "lay" (SpX K (arOf PD 16) (runX PD WF k 16))
  m17 : Cme P w K mg base (2 * k) "Table" "exchange" (SpX K (arOf PD 17) (runX PD WF k 17))
  m18 : Cme P w K mg base (2 * k) "Table" "turn" (SpX K (arOf PD 18) (runX PD WF k 18))
  m19 : Cme P w K mg base (2 * k) "Table" "back" (SpX K (arOf PD 19) (runX PD WF k 19))
  m20 : Cme P w K mg base (2 * k) "Table" "row" (SpX K (arOf PD 20) (runX PD WF k 20))
  m21 : Cme P w K mg base (2 * k) "Table" "laying" (SpX K (arOf PD 21) (runX PD WF k 21))
  m22 : Cme P w K mg base (2 * k) "Table" "deeds" (SpX K (arOf PD 22) (runX PD WF k 22))
  c500 : Ca P w K mg base (2 * k) "_law_cloth" (SpX K (arOf PD 500) (runX PD WF k 500))
  c501 : Ca P w K mg base (2 * k) "_law_take" (SpX K (arOf PD 501) (runX PD WF k 501))
  c502 : Ca P w K mg base (2 * k) "_law_same" (SpX K (arOf PD 502) (runX PD WF k 502))
  c503 : Ca P w K mg base (2 * k) "_law_setting" (SpX K (arOf PD 503) (runX PD WF k 503))
  c504 : Ca P w K mg base (2 * k) "_law_drawn" (SpX K (arOf PD 504) (runX PD WF k 504))
  c505 : Ca P w K mg base (2 * k) "_law_is_laying" (SpX K (arOf PD 505) (runX PD WF k 505))
  c506 : Ca P w K mg base (2 * k) "_law_moved" (SpX K (arOf PD 506) (runX PD WF k 506))
  c507 : Ca P w K mg base (2 * k) "_law_told" (SpX K (arOf PD 507) (runX PD WF k 507))
  c508 : Ca P w K mg base (2 * k) "_law_deed" (SpX K (arOf PD 508) (runX PD WF k 508))
  c509 : Ca P w K mg base (2 * k) "_law_stands" (SpX K (arOf PD 509) (runX PD WF k 509))
  c510 : Ca P w K mg base (2 * k) "_law_session" (SpX K (arOf PD 510) (runX PD WF k 510))
  c511 : Ca P w K mg base (2 * k) "_law_hand" (SpX K (arOf PD 511) (runX PD WF k 511))
  c512 : Ca P w K mg base (2 * k) "law" (SpX K (arOf PD 512) (runX PD WF k 512))
  mk14_0_2_1 : CmK P w K mg base (2 * k) "Table" (SpX K (arOf PD 14) (runX PD WF k 14)) ["row", "setting"] [0, 2, 1]
  mk17_0_1_2 : CmeK P w K mg base (2 * k) "Table" "exchange" (SpX K (arOf PD 17) (runX PD WF k 17)) ["one", "other"] [0, 1, 2]
  mk18_0_1_2 : CmeK P w K mg base (2 * k) "Table" "turn" (SpX K (arOf PD 18) (runX PD WF k 18)) ["tray", "many"] [0, 1, 2]
  mk16_0_1 : CmeK P w K mg base (2 * k) "Table" "lay" (SpX K (arOf PD 16) (runX PD WF k 16)) ["laying"] [0, 1]
section
variable {P : Program} {w : World} {K : PySem.W.Frag} {mg : Str → Option Value} {base : Heap} {k : Nat}
theorem w0 (H : Hyp P w K mg base k) {f : Addr} {fd : FuncData} (F : Fun K "is_integer" "is_integer" tp0 f fd) : FnOk P w K mg base (L2.CX P w) (2 * (k + 1)) f fd ["thing"] (SpX K (arOf PD 0) (runX PD WF (k + 1) 0)) :=
  fun_fw (j := 2 * k + 1) F sc0 (df := ⟨1, 1, b0⟩) rfl rfl rfl H.sub fun cdv A outer s Hh E hr1 tk hp =>
    have hr := hr1.mono (Nat.le_succ (2 * k))
    show PSs _ _ (rdSs _ _ b0) from
    (dss (ds_ret (d_and (d_isi rfl H.n_isinstance rfl H.n_int B_int (d_var rfl)) (d_one (d_not (d_isi rfl H.n_isinstance rfl H.n_bool B_bool (d_var rfl)))))) dss_nil)
theorem w1 (H : Hyp P w K mg base k) {f : Addr} {fd : FuncData} (F : Fun K "tuple_of" "tuple_of" tp1 f fd) : FnOk P w K mg base (L2.CX P w) (2 * (k + 1)) f fd ["thing", "many"] (SpX K (arOf PD 1) (runX PD WF (k + 1) 1)) :=
  fun_fw (j := 2 * k + 1) F sc1 (df := ⟨2, 2, b1⟩) rfl rfl rfl H.sub fun cdv A outer s Hh E hr1 tk hp =>
    have hr := hr1.mono (Nat.le_succ (2 * k))
    show PSs _ _ (rdSs _ _ b1) from
    (dss (ds_ret (d_and (d_isi rfl H.n_isinstance rfl H.n_tuple B_tuple (d_var rfl)) (d_one (d_cmp (o := .eq) hr rfl (d_len rfl H.n_len (d_var rfl)) (d_var rfl))))) dss_nil)
theorem w2 (H : Hyp P w K mg base k) {f : Addr} {fd : FuncData} (F : Fun K "are_integers" "are_integers" tp2 f fd) : FnOk P w K mg base (L2.CX P w) (2 * (k + 1)) f fd ["thing"] (SpX K (arOf PD 2) (runX PD WF (k + 1) 2)) :=
  fun_fw (j := 2 * k + 1) F sc2 (df := ⟨1, 2, b2⟩) rfl rfl rfl H.sub fun cdv A outer s Hh E hr1 tk hp =>
    have hr := hr1.mono (Nat.le_succ (2 * k))
    show PSs _ _ (rdSs _ _ b2) from
    (dss (ds_ret (d_all rfl rfl H.n_all (d_lc [("part", 1)] rfl sc2.nd (blkOk_by rfl) (di_seq (d_var rfl)) (fun _ _ _ _ _ => (dg_name sc2.nd rfl (by first | exact .inl rfl | exact .inr rfl))) (fun _ _ _ _ _ => dts_nil) (fun _ _ _ _ _ => (d_call H.c0 hr rfl (d_cons (d_var rfl) d_nil)))))) dss_nil)
theorem w3 (H : Hyp P w K mg base k) {f : Addr} {fd : FuncData} (F : Fun K "places_of" "places_of" tp3 f fd) : FnOk P w K mg base (L2.CX P w) (2 * (k + 1)) f fd ["setting", "tray"] (SpX K (arOf PD 3) (runX PD WF (k + 1) 3)) :=
  fun_fw (j := 2 * k + 1) F sc3 (df := ⟨2, 4, b3⟩) rfl rfl rfl H.sub fun cdv A outer s Hh E hr1 tk hp =>
    have hr := hr1.mono (Nat.le_succ (2 * k))
    show PSs _ _ (rdSs _ _ b3) from
    (dss (ds_ret (d_toTup rfl H.n_tuple (d_lc [("number", 2), ("place", 3)] rfl sc3.nd (blkOk_by rfl) (di_enum rfl H.n_enumerate (d_idx (d_var rfl) d_int)) (fun _ _ _ _ _ => (dg_tup rfl (dg_cons (dg_name sc3.nd rfl (by first | exact .inl rfl | exact .inr rfl)) (dg_cons (dg_name sc3.nd rfl (by first | exact .inl rfl | exact .inr rfl)) dg_nil)))) (fun _ _ _ _ _ => (dts_one (dt_cmp (o := .eq) hr rfl (d_idx (d_var rfl) d_int) (d_var rfl)))) (fun _ _ _ _ _ => (d_var rfl))))) dss_nil)
theorem w4 (H : Hyp P w K mg base k) {f : Addr} {fd : FuncData} (F : Fun K "trays_with" "trays_with" tp4 f fd) : FnOk P w K mg base (L2.CX P w) (2 * (k + 1)) f fd ["setting"] (SpX K (arOf PD 4) (runX PD WF (k + 1) 4)) :=
  fun_fw (j := 2 * k + 1) F sc4 (df := ⟨1, 3, b4⟩) rfl rfl rfl H.sub fun cdv A outer s Hh E hr1 tk hp =>
    have hr := hr1.mono (Nat.le_succ (2 * k))
    show PSs _ _ (rdSs _ _ b4) from
    (dss (ds_ret (d_lc [("number", 1), ("tray", 2)] rfl sc4.nd (blkOk_by rfl) (di_enum rfl H.n_enumerate (d_idx (d_var rfl) d_int)) (fun _ _ _ _ _ => (dg_tup rfl (dg_cons (dg_name sc4.nd rfl (by first | exact .inl rfl | exact .inr rfl)) (dg_cons (dg_name sc4.nd rfl (by first | exact .inl rfl | exact .inr rfl)) dg_nil)))) (fun _ _ _ _ _ => dts_nil) (fun _ _ _ _ _ => (d_tup (d_cons (d_idx (d_var rfl) d_int) (d_cons (d_call H.c3 hr rfl (d_cons (d_var rfl) (d_cons (d_var rfl) d_nil))) d_nil)))))) dss_nil)
theorem w5 (H : Hyp P w K mg base k) {f : Addr} {fd : FuncData} (F : Fun K "turned" "turned" tp5 f fd) : FnOk P w K mg base (L2.CX P w) (2 * (k + 1)) f fd ["part", "many"] (SpX K (arOf PD 5) (runX PD WF (k + 1) 5)) :=
  fun_fw (j := 2 * k + 1) F sc5 (df := ⟨2, 3, b5⟩) rfl rfl rfl H.sub fun cdv A outer s Hh E hr1 tk hp =>
    have hr := hr1.mono (Nat.le_succ (2 * k))
    show PSs _ _ (rdSs _ _ b5) from
    (dss (ds_ret (d_lc [("at", 2)] rfl sc5.nd (blkOk_by rfl) (di_rng1 rfl H.n_range (d_len rfl H.n_len (d_var rfl))) (fun _ _ _ _ _ => (dg_name sc5.nd rfl (by first | exact .inl rfl | exact .inr rfl))) (fun _ _ _ _ _ => dts_nil) (fun _ _ _ _ _ => (d_idx (d_var rfl) (d_bin (o := .mod) rfl (d_bin (o := .add) rfl (d_var rfl) (d_var rfl)) (d_len rfl H.n_len (d_var rfl))))))) dss_nil)
theorem w6 (H : Hyp P w K mg base k) {f : Addr} {fd : FuncData} (F : Fun K "own_layings" "own_layings" tp6 f fd) : FnOk P w K mg base (L2.CX P w) (2 * (k + 1)) f fd ["manner", "part"] (SpX K (arOf PD 6) (runX PD WF (k + 1) 6)) :=
  fun_fw (j := 2 * k + 1) F sc6 (df := ⟨2, 3, b6⟩) rfl rfl rfl H.sub fun cdv A outer s Hh E hr1 tk hp =>
    have hr := hr1.mono (Nat.le_succ (2 * k))
    show PSs _ _ (rdSs _ _ b6) from
    (dss (ds_if (dt_bop (dw_and (dt_cmp (o := .eq) hr rfl (d_var rfl) d_str) (dw_and1 (dt_tru (d_var rfl))))) (dss (ds_ret (d_lc [("many", 2)] rfl sc6.nd (blkOk_by rfl) (di_rng1 rfl H.n_range (d_len rfl H.n_len (d_var rfl))) (fun _ _ _ _ _ => (dg_name sc6.nd rfl (by first | exact .inl rfl | exact .inr rfl))) (fun _ _ _ _ _ => dts_nil) (fun _ _ _ _ _ => (d_call H.c5 hr rfl (d_cons (d_var rfl) (d_cons (d_var rfl) d_nil)))))) dss_nil) dss_nil) (dss (ds_if (dt_bop (dw_and (dt_cmp (o := .eq) hr rfl (d_var rfl) d_str) (dw_and1 (dt_cmp (o := .gt) hr rfl (d_len rfl H.n_len (d_var rfl)) d_int)))) (dss (ds_ret (d_lst (d_cons (d_toLst rfl H.n_list (d_var rfl)) (d_cons (d_rev (p4 := ⟨0, 0, 0, 0⟩) (d_toLst rfl H.n_list (d_var rfl))) d_nil)))) dss_nil) dss_nil) (dss (ds_ret (d_lst (d_cons (d_toLst rfl H.n_list (d_var rfl)) d_nil))) dss_nil)))
theorem w7 (H : Hyp P w K mg base k) {f : Addr} {fd : FuncData} (F : Fun K "is_own_laying" "is_own_laying" tp7 f fd) : FnOk P w K mg base (L2.CX P w) (2 * (k + 1)) f fd ["manner", "part", "told"] (SpX K (arOf PD 7) (runX PD WF (k + 1) 7)) :=
  fun_fw (j := 2 * k + 1) F sc7 (df := ⟨3, 3, b7⟩) rfl rfl rfl H.sub fun cdv A outer s Hh E hr1 tk hp =>
    have hr := hr1.mono (Nat.le_succ (2 * k))
    show PSs _ _ (rdSs _ _ b7) from
    (dss (ds_if (dt_cmp (o := .eq) hr rfl (d_var rfl) d_str) (dss (ds_ret (d_cmp (o := .eqD) hr rfl (d_sorted hr rfl H.n_sorted (d_var rfl)) (d_toLst rfl H.n_list (d_var rfl)))) dss_nil) dss_nil) (dss (ds_ret (d_cmp (o := .isin) hr rfl (d_var rfl) (d_call H.c6 hr rfl (d_cons (d_var rfl) (d_cons (d_var rfl) d_nil))))) dss_nil))
theorem w8 (H : Hyp P w K mg base k) {f : Addr} {fd : FuncData} (F : Fun K "is_laying" "is_laying" tp8 f fd) : FnOk P w K mg base (L2.CX P w) (2 * (k + 1)) f fd ["setting", "thing"] (SpX K (arOf PD 8) (runX PD WF (k + 1) 8)) :=
  fun_fw (j := 2 * k + 1) F sc8 (df := ⟨2, 5, b8⟩) rfl rfl rfl H.sub fun cdv A outer s Hh E hr1 tk hp =>
    have hr := hr1.mono (Nat.le_succ (2 * k))
    show PSs _ _ (rdSs _ _ b8) from
    (dss (ds_if (dt_bop (dw_or (dt_not (dt_tru (d_call H.c1 hr rfl (d_cons (d_var rfl) (d_cons (d_len rfl H.n_len (d_idx (d_var rfl) d_int)) d_nil))))) (dw_or1 (dt_not (dt_tru (d_call H.c2 hr rfl (d_cons (d_var rfl) d_nil))))))) (dss (ds_ret d_bl) dss_nil) dss_nil) (dss (ds_for hp rfl (di_seq (d_call H.c4 hr rfl (d_cons (d_var rfl) d_nil))) (dg_tup rfl (dg_cons (dg_name sc8.nd rfl (by first | exact .inl rfl | exact .inr rfl)) (dg_cons (dg_name sc8.nd rfl (by first | exact .inl rfl | exact .inr rfl)) dg_nil))) (dss (ds_if (dt_not (dt_tru (d_call H.c7 hr rfl (d_cons (d_var rfl) (d_cons (d_var rfl) (d_cons (d_lc [("place", 4)] rfl sc8.nd (blkOk_by rfl) (di_seq (d_var rfl)) (fun _ _ _ _ _ => (dg_name sc8.nd rfl (by first | exact .inl rfl | exact .inr rfl))) (fun _ _ _ _ _ => dts_nil) (fun _ _ _ _ _ => (d_idx (d_var rfl) (d_var rfl)))) d_nil)))))) (dss (ds_ret d_bl) dss_nil) dss_nil) dss_nil)) (dss (ds_ret d_bl) dss_nil)))
theorem w9 (H : Hyp P w K mg base k) {f : Addr} {fd : FuncData} (F : Fun K "check_laying" "check_laying" tp9 f fd) : FnOk P w K mg base (L2.CX P w) (2 * (k + 1)) f fd ["setting", "thing"] (SpX K (arOf PD 9) (runX PD WF (k + 1) 9)) :=
  fun_fw (j := 2 * k + 1) F sc9 (df := ⟨2, 2, b9⟩) rfl rfl rfl H.sub fun cdv A outer s Hh E hr1 tk hp =>
    have hr := hr1.mono (Nat.le_succ (2 * k))
    show PSs _ _ (rdSs _ _ b9) from
    (dss (ds_if (dt_not (dt_tru (d_call H.c8 hr rfl (d_cons (d_var rfl) (d_cons (d_var rfl) d_nil))))) (dss (ds_raise rfl tk H.e_BadRow hr rfl (d_cons (d_negc (n := 1)) d_nil)) dss_nil) dss_nil) (dss (ds_ret (d_len rfl H.n_len (d_var rfl))) dss_nil))
theorem w10 (H : Hyp P w K mg base k) {f : Addr} {fd : FuncData} (F : Fun K "plain_laying" "plain_laying" tp10 f fd) : FnOk P w K mg base (L2.CX P w) (2 * (k + 1)) f fd ["setting"] (SpX K (arOf PD 10) (runX PD WF (k + 1) 10)) :=
  fun_fw (j := 2 * k + 1) F sc10 (df := ⟨1, 1, b10⟩) rfl rfl rfl H.sub fun cdv A outer s Hh E hr1 tk hp =>
    have hr := hr1.mono (Nat.le_succ (2 * k))
    show PSs _ _ (rdSs _ _ b10) from
    (dss (ds_ret (d_tupRg rfl rfl H.n_tuple rfl H.n_range (d_len rfl H.n_len (d_idx (d_var rfl) d_int)))) dss_nil)
theorem w11 (H : Hyp P w K mg base k) {f : Addr} {fd : FuncData} (F : Fun K "laid" "laid" tp11 f fd) : FnOk P w K mg base (L2.CX P w) (2 * (k + 1)) f fd ["row", "laying"] (SpX K (arOf PD 11) (runX PD WF (k + 1) 11)) :=
  fun_fw (j := 2 * k + 1) F sc11 (df := ⟨2, 3, b11⟩) rfl rfl rfl H.sub fun cdv A outer s Hh E hr1 tk hp =>
    have hr := hr1.mono (Nat.le_succ (2 * k))
    show PSs _ _ (rdSs _ _ b11) from
    (dss (ds_ret (d_toTup rfl H.n_tuple (d_lc [("place", 2)] rfl sc11.nd (blkOk_by rfl) (di_seq (d_var rfl)) (fun _ _ _ _ _ => (dg_name sc11.nd rfl (by first | exact .inl rfl | exact .inr rfl))) (fun _ _ _ _ _ => dts_nil) (fun _ _ _ _ _ => (d_idx (d_var rfl) (d_var rfl)))))) dss_nil)
theorem w12 (H : Hyp P w K mg base k) {f : Addr} {fd : FuncData} (F : Fun K "composed" "composed" tp12 f fd) : FnOk P w K mg base (L2.CX P w) (2 * (k + 1)) f fd ["one", "other"] (SpX K (arOf PD 12) (runX PD WF (k + 1) 12)) :=
  fun_fw (j := 2 * k + 1) F sc12 (df := ⟨2, 3, b12⟩) rfl rfl rfl H.sub fun cdv A outer s Hh E hr1 tk hp =>
    have hr := hr1.mono (Nat.le_succ (2 * k))
    show PSs _ _ (rdSs _ _ b12) from
    (dss (ds_ret (d_toTup rfl H.n_tuple (d_lc [("place", 2)] rfl sc12.nd (blkOk_by rfl) (di_seq (d_var rfl)) (fun _ _ _ _ _ => (dg_name sc12.nd rfl (by first | exact .inl rfl | exact .inr rfl))) (fun _ _ _ _ _ => dts_nil) (fun _ _ _ _ _ => (d_idx (d_var rfl) (d_var rfl)))))) dss_nil)
theorem w13 (H : Hyp P w K mg base k) {f : Addr} {fd : FuncData} (F : Fun K "with_parts" "with_parts" tp13 f fd) : FnOk P w K mg base (L2.CX P w) (2 * (k + 1)) f fd ["setting", "parts"] (SpX K (arOf PD 13) (runX PD WF (k + 1) 13)) :=
  fun_fw (j := 2 * k + 1) F sc13 (df := ⟨2, 8, b13⟩) rfl rfl rfl H.sub fun cdv A outer s Hh E hr1 tk hp =>
    have hr := hr1.mono (Nat.le_succ (2 * k))
    show PSs _ _ (rdSs _ _ b13) from
    (dss (ds_set sc13.nd rfl (by first | exact .inl rfl | exact .inr rfl) (d_newLst rfl H.n_list (d_call H.c10 hr rfl (d_cons (d_var rfl) d_nil)))) (dss (ds_for hp rfl (di_zip rfl H.n_zip (d_call H.c4 hr rfl (d_cons (d_var rfl) d_nil)) (d_var rfl)) (dg_tup rfl (dg_cons (dg_tup rfl (dg_cons (dg_name sc13.nd rfl (by first | exact .inl rfl | exact .inr rfl)) (dg_cons (dg_name sc13.nd rfl (by first | exact .inl rfl | exact .inr rfl)) dg_nil))) (dg_cons (dg_name sc13.nd rfl (by first | exact .inl rfl | exact .inr rfl)) dg_nil))) (dss (ds_for hp rfl (di_zip rfl H.n_zip (d_var rfl) (d_var rfl)) (dg_tup rfl (dg_cons (dg_name sc13.nd rfl (by first | exact .inl rfl | exact .inr rfl)) (dg_cons (dg_name sc13.nd rfl (by first | exact .inl rfl | exact .inr rfl)) dg_nil))) (dss (ds_seti (d_var rfl) (d_var rfl) (d_var rfl)) dss_nil)) dss_nil)) (dss (ds_ret (d_toTup rfl H.n_tuple (d_var rfl))) dss_nil)))
theorem w14 (H : Hyp P w K mg base k) {f : Addr} {fd : FuncData} (F : Fun K "__init__" "Table.__init__" tp14 f fd) : FnOk P w K mg base (L2.CX P w) (2 * (k + 1)) f fd ["self", "setting", "row"] (SpX K (arOf PD 14) (runX PD WF (k + 1) 14)) :=
  fun_fw (j := 2 * k + 1) F sc14 (df := ⟨3, 3, b14⟩) rfl rfl rfl H.sub fun cdv A outer s Hh E hr1 tk hp =>
    have hr := hr1.mono (Nat.le_succ (2 * k))
    show PSs _ _ (rdSs _ _ b14) from
    (dss (ds_sfld H.na_Table__setting (d_var rfl) (d_var rfl)) (dss (ds_sfld H.na_Table__row (d_var rfl) (d_var rfl)) (dss (ds_sfld H.na_Table__layings (d_var rfl) (d_newL (d_cons (d_call H.c10 hr rfl (d_cons (d_var rfl) d_nil)) d_nil))) dss_nil)))
theorem w15 (H : Hyp P w K mg base k) {f : Addr} {fd : FuncData} (F : Fun K "_lay" "Table._lay" tp15 f fd) : FnOk P w K mg base (L2.CX P w) (2 * (k + 1)) f fd ["self", "laying"] (SpX K (arOf PD 15) (runX PD WF (k + 1) 15)) :=
  fun_fw (j := 2 * k + 1) F sc15 (df := ⟨2, 2, b15⟩) rfl rfl rfl H.sub fun cdv A outer s Hh E hr1 tk hp =>
    have hr := hr1.mono (Nat.le_succ (2 * k))
    show PSs _ _ (rdSs _ _ b15) from
    (dss (ds_expr (d_app (d_fld (d_var rfl)) (d_call H.c12 hr rfl (d_cons (d_idx (d_fld (d_var rfl)) (d_negc (n := 1))) (d_cons (d_var rfl) d_nil))))) dss_nil)
theorem w16 (H : Hyp P w K mg base k) {f : Addr} {fd : FuncData} (F : Fun K "lay" "Table.lay" tp16 f fd) : FnOk P w K mg base (L2.CX P w) (2 * (k + 1)) f fd ["self", "laying"] (SpX K (arOf PD 16) (runX PD WF (k + 1) 16)) :=
  fun_fw (j := 2 * k + 1) F sc16 (df := ⟨2, 2, b16⟩) rfl rfl rfl H.sub fun cdv A outer s Hh E hr1 tk hp =>
    have hr := hr1.mono (Nat.le_succ (2 * k))
    show PSs _ _ (rdSs _ _ b16) from
    (dss (ds_if (dt_not (dt_tru (d_call H.c8 hr rfl (d_cons (d_fld (d_var rfl)) (d_cons (d_var rfl) d_nil))))) (dss (ds_raise rfl tk H.e_BadRow hr rfl (d_cons (d_negc (n := 1)) d_nil)) dss_nil) dss_nil) (dss (ds_expr (d_meth H.cl_Table H.m15 hr (d_var rfl) (d_cons (d_var rfl) d_nil))) dss_nil))
theorem w17 (H : Hyp P w K mg base k) {f : Addr} {fd : FuncData} (F : Fun K "exchange" "Table.exchange" tp17 f fd) : FnOk P w K mg base (L2.CX P w) (2 * (k + 1)) f fd ["self", "one", "other"] (SpX K (arOf PD 17) (runX PD WF (k + 1) 17)) :=
  fun_fw (j := 2 * k + 1) F sc17 (df := ⟨3, 6, b17⟩) rfl rfl rfl H.sub fun cdv A outer s Hh E hr1 tk hp =>
    have hr := hr1.mono (Nat.le_succ (2 * k))
    show PSs _ _ (rdSs _ _ b17) from
    (dss (ds_setLc [("place", 5)] rfl sc17.nd rfl rfl (blkOk_by rfl) (di_seq (d_idx (d_fld (d_var rfl)) d_int)) (fun _ _ _ _ _ => (dg_name sc17.nd rfl (by first | exact .inl rfl | exact .inr rfl))) (fun _ _ _ _ _ => dts_nil) (fun _ _ _ _ _ => (d_idx (d_var rfl) d_int))) (dss (ds_if (dt_cmp (o := .ne) hr rfl (d_idx (d_var rfl) (d_var rfl)) (d_idx (d_var rfl) (d_var rfl))) (dss (ds_raise rfl tk H.e_BadStep hr rfl (d_cons d_str d_nil)) dss_nil) dss_nil) (dss (ds_if (dt_cmp (o := .ne) hr rfl (d_idx (d_idx (d_idx (d_fld (d_var rfl)) d_int) (d_idx (d_var rfl) (d_var rfl))) d_int) d_str) (dss (ds_raise rfl tk H.e_BadStep hr rfl (d_cons d_str d_nil)) dss_nil) dss_nil) (dss (ds_set sc17.nd rfl (by first | exact .inl rfl | exact .inr rfl) (d_newLst rfl H.n_list (d_call H.c10 hr rfl (d_cons (d_fld (d_var rfl)) d_nil)))) (dss (ds_setp (p5 := ⟨0, 0, 0, 0⟩) rfl (d_idx (d_var rfl) (d_var rfl)) (d_idx (d_var rfl) (d_var rfl)) (d_var rfl) (d_var rfl) (d_var rfl) (d_var rfl)) (dss (ds_expr (d_meth H.cl_Table H.m15 hr (d_var rfl) (d_cons (d_toTup rfl H.n_tuple (d_var rfl)) d_nil))) dss_nil))))))
theorem w18 (H : Hyp P w K mg base k) {f : Addr} {fd : FuncData} (F : Fun K "turn" "Table.turn" tp18 f fd) : FnOk P w K mg base (L2.CX P w) (2 * (k + 1)) f fd ["self", "tray", "many"] (SpX K (arOf PD 18) (runX PD WF (k + 1) 18)) :=
  fun_fw (j := 2 * k + 1) F sc18 (df := ⟨3, 10, b18⟩) rfl rfl rfl H.sub fun cdv A outer s Hh E hr1 tk hp =>
    have hr := hr1.mono (Nat.le_succ (2 * k))
    show PSs _ _ (rdSs _ _ b18) from
    (dss (ds_set sc18.nd rfl (by first | exact .inl rfl | exact .inr rfl) (d_call H.c4 hr rfl (d_cons (d_fld (d_var rfl)) d_nil))) (dss (ds_asg (d_idx (d_var rfl) (d_var rfl)) (dg_tup rfl (dg_cons (dg_name sc18.nd rfl (by first | exact .inl rfl | exact .inr rfl)) (dg_cons (dg_name sc18.nd rfl (by first | exact .inl rfl | exact .inr rfl)) dg_nil)))) (dss (ds_if (dt_cmp (o := .notin) hr rfl (d_var rfl) (d_tup (d_cons d_str (d_cons d_str d_nil)))) (dss (ds_raise rfl tk H.e_BadStep hr rfl (d_cons d_str d_nil)) dss_nil) dss_nil) (dss (ds_set sc18.nd rfl (by first | exact .inl rfl | exact .inr rfl) (d_call H.c6 hr rfl (d_cons (d_var rfl) (d_cons (d_var rfl) d_nil)))) (dss (ds_newLc (ds_setLc [("_", 8), ("own", 9)] rfl sc18.nd rfl rfl (blkOk_by rfl) (di_seq (d_var rfl)) (fun _ _ _ _ _ => (dg_tup rfl (dg_cons (dg_name sc18.nd rfl (by first | exact .inl rfl | exact .inr rfl)) (dg_cons (dg_name sc18.nd rfl (by first | exact .inl rfl | exact .inr rfl)) dg_nil)))) (fun _ _ _ _ _ => dts_nil) (fun _ _ _ _ _ => (d_toLst rfl H.n_list (d_var rfl))))) (dss (ds_seti (d_idx (d_var rfl) (d_bin (o := .mod) rfl (d_var rfl) (d_len rfl H.n_len (d_var rfl)))) (d_var rfl) (d_var rfl)) (dss_frz (dss (ds_expr (d_meth H.cl_Table H.m15 hr (d_var rfl) (d_cons (d_call H.c13 hr rfl (d_cons (d_fld (d_var rfl)) (d_cons (d_var rfl) d_nil))) d_nil))) dss_nil))))))))
theorem w19 (H : Hyp P w K mg base k) {f : Addr} {fd : FuncData} (F : Fun K "back" "Table.back" tp19 f fd) : FnOk P w K mg base (L2.CX P w) (2 * (k + 1)) f fd ["self"] (SpX K (arOf PD 19) (runX PD WF (k + 1) 19)) :=
  fun_fw (j := 2 * k + 1) F sc19 (df := ⟨1, 1, b19⟩) rfl rfl rfl H.sub fun cdv A outer s Hh E hr1 tk hp =>
    have hr := hr1.mono (Nat.le_succ (2 * k))
    show PSs _ _ (rdSs _ _ b19) from
    (dss (ds_if (dt_cmp (o := .eq) hr rfl (d_len rfl H.n_len (d_fld (d_var rfl))) d_int) (dss (ds_raise rfl tk H.e_NoSuch hr rfl (d_cons d_str (d_cons d_str d_nil))) dss_nil) dss_nil) (dss (ds_expr (d_pop (d_fld (d_var rfl)))) dss_nil))
theorem w20 (H : Hyp P w K mg base k) {f : Addr} {fd : FuncData} (F : Fun K "row" "Table.row" tp20 f fd) : FnOk P w K mg base (L2.CX P w) (2 * (k + 1)) f fd ["self"] (SpX K (arOf PD 20) (runX PD WF (k + 1) 20)) :=
  fun_fw (j := 2 * k + 1) F sc20 (df := ⟨1, 1, b20⟩) rfl rfl rfl H.sub fun cdv A outer s Hh E hr1 tk hp =>
    have hr := hr1.mono (Nat.le_succ (2 * k))
    show PSs _ _ (rdSs _ _ b20) from
    (dss (ds_ret (d_call H.c11 hr rfl (d_cons (d_fld (d_var rfl)) (d_cons (d_idx (d_fld (d_var rfl)) (d_negc (n := 1))) d_nil)))) dss_nil)
theorem w21 (H : Hyp P w K mg base k) {f : Addr} {fd : FuncData} (F : Fun K "laying" "Table.laying" tp21 f fd) : FnOk P w K mg base (L2.CX P w) (2 * (k + 1)) f fd ["self"] (SpX K (arOf PD 21) (runX PD WF (k + 1) 21)) :=
  fun_fw (j := 2 * k + 1) F sc21 (df := ⟨1, 1, b21⟩) rfl rfl rfl H.sub fun cdv A outer s Hh E hr1 tk hp =>
    have hr := hr1.mono (Nat.le_succ (2 * k))
    show PSs _ _ (rdSs _ _ b21) from
    (dss (ds_ret (d_idx (d_fld (d_var rfl)) (d_negc (n := 1)))) dss_nil)
theorem w22 (H : Hyp P w K mg base k) {f : Addr} {fd : FuncData} (F : Fun K "deeds" "Table.deeds" tp22 f fd) : FnOk P w K mg base (L2.CX P w) (2 * (k + 1)) f fd ["self"] (SpX K (arOf PD 22) (runX PD WF (k + 1) 22)) :=
  fun_fw (j := 2 * k + 1) F sc22 (df := ⟨1, 1, b22⟩) rfl rfl rfl H.sub fun cdv A outer s Hh E hr1 tk hp =>
    have hr := hr1.mono (Nat.le_succ (2 * k))
    show PSs _ _ (rdSs _ _ b22) from
    (dss (ds_ret (d_bin (o := .sub) rfl (d_len rfl H.n_len (d_fld (d_var rfl))) d_int)) dss_nil)
theorem w500 (H : Hyp P w K mg base k) {f : Addr} {fd : FuncData} (F : Fun K "_law_cloth" "_law_cloth" tp500 f fd) : FnOk P w K mg base (L2.CX P w) (2 * (k + 1)) f fd ["script"] (SpX K (arOf PD 500) (runX PD WF (k + 1) 500)) :=
  fun_fw (j := 2 * k + 1) F sc500 (df := ⟨1, 5, b500⟩) rfl rfl rfl H.sub fun cdv A outer s Hh E hr1 tk hp =>
    have hr := hr1.mono (Nat.le_succ (2 * k))
    show PSs _ _ (rdSs _ _ b500) from
    (dss (ds_par rfl sc500.nd rfl rfl (d_newL d_nil) d_int) (dss (ds_for hp rfl (di_seq (d_slc (d_var rfl) d_o0 (d_o1 d_int))) (dg_name sc500.nd rfl (by first | exact .inl rfl | exact .inr rfl)) (dss (ds_set sc500.nd rfl (by first | exact .inl rfl | exact .inr rfl) (d_bin (o := .mod) rfl (d_abs rfl H.n_abs (d_toInt rfl H.n_int (d_var rfl))) (d_bin (o := .shl) rfl d_int d_int))) (dss (ds_set sc500.nd rfl (by first | exact .inl rfl | exact .inr rfl) (d_bin (o := .mod) rfl (d_toInt rfl H.n_int (d_bin (o := .add) rfl (d_bin (o := .add) rfl (d_bin (o := .add) rfl (d_bin (o := .mul) rfl (d_var rfl) d_int) (d_bin (o := .mod) rfl (d_var rfl) d_int)) (d_bin (o := .mul) rfl d_int (d_toInt rfl H.n_int (d_cmp (o := .lt) hr rfl (d_var rfl) d_int)))) d_int)) d_int)) (dss (ds_if (dt_cmp (o := .ge) hr rfl (d_var rfl) (d_bin (o := .pow) rfl d_int d_int)) (dss (ds_expr (d_app (d_var rfl) (d_var rfl))) dss_nil) dss_nil) dss_nil)))) (dss (ds_ret (d_disp (d_ds (d_var rfl) (d_ds (d_var rfl) (d_ds d_int (d_ds d_newK d_ds0)))))) dss_nil)))
theorem w501 (H : Hyp P w K mg base k) {f : Addr} {fd : FuncData} (F : Fun K "_law_take" "_law_take" tp501 f fd) : FnOk P w K mg base (L2.CX P w) (2 * (k + 1)) f fd ["cloth", "place", "many"] (SpX K (arOf PD 501) (runX PD WF (k + 1) 501)) :=
  fun_fw (j := 2 * k + 1) F sc501 (df := ⟨3, 5, b501⟩) rfl rfl rfl H.sub fun cdv A outer s Hh E hr1 tk hp =>
    have hr := hr1.mono (Nat.le_succ (2 * k))
    show PSs _ _ (rdSs _ _ b501) from
    (dss (ds_if (dt_cmp (o := .lt) hr rfl (d_var rfl) d_int) (dss (ds_ret d_int) dss_nil) dss_nil) (dss (ds_if (dt_cmp (o := .gt) hr rfl (d_len rfl H.n_len (d_dget hr (d_var rfl) d_str)) d_int) (dss (ds_set sc501.nd rfl (by first | exact .inl rfl | exact .inr rfl) (d_pop (d_dget hr (d_var rfl) d_str))) (dss (ds_if (dt_cmp (o := .ge) hr rfl (d_var rfl) (d_var rfl)) (dss (ds_expr (d_app (d_dget hr (d_var rfl) d_str) (d_bin (o := .fdiv) rfl (d_var rfl) (d_var rfl)))) dss_nil) dss_nil) (dss (ds_ret (d_bin (o := .mod) rfl (d_toInt rfl H.n_int (d_var rfl)) (d_var rfl))) dss_nil))) dss_nil) (dss (ds_dput hr (d_bin (o := .add) rfl (d_dget hr (d_var rfl) d_str) d_int) (d_var rfl) d_str) (dss (ds_dput hr (d_bin (o := .mod) rfl (d_toInt rfl H.n_int (d_bin (o := .add) rfl (d_bin (o := .add) rfl (d_bin (o := .mul) rfl (d_dget hr (d_var rfl) d_str) d_int) (d_bin (o := .mul) rfl (d_dget hr (d_var rfl) d_str) d_int)) d_int)) d_int) (d_var rfl) d_str) (dss (ds_if (dt_dnin hr (d_var rfl) (d_dget hr (d_var rfl) d_str)) (dss (ds_dput hr (d_bin (o := .fdiv) rfl (d_dget hr (d_var rfl) d_str) d_int) (d_dget hr (d_var rfl) d_str) (d_var rfl)) (dss (ds_dput hr (d_bin (o := .mod) rfl (d_toInt rfl H.n_int (d_bin (o := .add) rfl (d_bin (o := .mul) rfl (d_dget hr (d_var rfl) d_str) d_int) d_int)) d_int) (d_var rfl) d_str) dss_nil)) dss_nil) (dss (ds_set sc501.nd rfl (by first | exact .inl rfl | exact .inr rfl) (d_dget hr (d_dget hr (d_var rfl) d_str) (d_var rfl))) (dss (ds_if (dt_cmp (o := .lt) hr rfl (d_bin (o := .mod) rfl (d_toInt rfl H.n_int (d_var rfl)) d_int) d_int) (dss (ds_ret (d_idx (d_tup (d_cons d_int (d_cons (d_bin (o := .sub) rfl (d_var rfl) d_int) (d_cons (d_bin (o := .mod) rfl (d_toInt rfl H.n_int (d_bin (o := .fdiv) rfl (d_var rfl) d_int)) (d_var rfl)) d_nil)))) (d_bin (o := .mod) rfl (d_toInt rfl H.n_int (d_var rfl)) d_int))) dss_nil) dss_nil) (dss (ds_ret (d_bin (o := .mod) rfl (d_toInt rfl H.n_int (d_bin (o := .fdiv) rfl (d_dget hr (d_var rfl) d_str) d_int)) (d_var rfl))) dss_nil))))))))
theorem w502 (H : Hyp P w K mg base k) {f : Addr} {fd : FuncData} (F : Fun K "_law_same" "_law_same" tp502 f fd) : FnOk P w K mg base (L2.CX P w) (2 * (k + 1)) f fd ["told", "due"] (SpX K (arOf PD 502) (runX PD WF (k + 1) 502)) :=
  fun_fw (j := 2 * k + 1) F sc502 (df := ⟨2, 6, b502⟩) rfl rfl rfl H.sub fun cdv A outer s Hh E hr1 tk hp =>
    have hr := hr1.mono (Nat.le_succ (2 * k))
    show PSs _ _ (rdSs _ _ b502) from
    (dss (ds_set sc502.nd rfl (by first | exact .inl rfl | exact .inr rfl) (d_newL (d_cons (d_tup (d_cons (d_var rfl) (d_cons (d_var rfl) d_nil))) d_nil))) (dss (ds_while hp (dt_cmp (o := .gt) hr rfl (d_len rfl H.n_len (d_var rfl)) d_int) (dss (ds_asg (d_pop (d_var rfl)) (dg_tup rfl (dg_cons (dg_name sc502.nd rfl (by first | exact .inl rfl | exact .inr rfl)) (dg_cons (dg_name sc502.nd rfl (by first | exact .inl rfl | exact .inr rfl)) dg_nil)))) (dss (ds_if (dt_bop (dw_or (dt_tru (d_isi rfl H.n_isinstance rfl H.n_tuple B_tuple (d_var rfl))) (dw_or1 (dt_tru (d_isi rfl H.n_isinstance rfl H.n_list B_list (d_var rfl)))))) (dss (ds_if (dt_bop (dw_or (dt_cmp (o := .ne) hr rfl (d_isi rfl H.n_isinstance rfl H.n_tuple B_tuple (d_var rfl)) (d_isi rfl H.n_isinstance rfl H.n_tuple B_tuple (d_var rfl))) (dw_or (dt_cmp (o := .ne) hr rfl (d_isi rfl H.n_isinstance rfl H.n_list B_list (d_var rfl)) (d_isi rfl H.n_isinstance rfl H.n_list B_list (d_var rfl))) (dw_or1 (dt_cmp (o := .ne) hr rfl (d_len rfl H.n_len (d_var rfl)) (d_len rfl H.n_len (d_var rfl))))))) (dss (ds_ret d_bl) dss_nil) dss_nil) (dss (ds_for hp rfl (di_rng1 rfl H.n_range (d_len rfl H.n_len (d_var rfl))) (dg_name sc502.nd rfl (by first | exact .inl rfl | exact .inr rfl)) (dss (ds_expr (d_app (d_var rfl) (d_tup (d_cons (d_idx (d_var rfl) (d_var rfl)) (d_cons (d_idx (d_var rfl) (d_var rfl)) d_nil))))) dss_nil)) dss_nil)) (dss (ds_if (dt_tru (d_isi rfl H.n_isinstance rfl H.n_str B_str (d_var rfl))) (dss (ds_if (dt_bop (dw_or (dt_not (dt_tru (d_isi rfl H.n_isinstance rfl H.n_str B_str (d_var rfl)))) (dw_or1 (dt_cmp (o := .ne) hr rfl (d_var rfl) (d_var rfl))))) (dss (ds_ret d_bl) dss_nil) dss_nil) dss_nil) (dss (ds_if (dt_cmp (o := .isN) hr rfl (d_var rfl) d_none) (dss (ds_if (dt_cmp (o := .notN) hr rfl (d_var rfl) d_none) (dss (ds_ret d_bl) dss_nil) dss_nil) dss_nil) (dss (ds_if (dt_bop (dw_or (dt_cmp (o := .ne) hr rfl (d_isi rfl H.n_isinstance rfl H.n_bool B_bool (d_var rfl)) (d_isi rfl H.n_isinstance rfl H.n_bool B_bool (d_var rfl))) (dw_or (dt_not (dt_tru (d_isi rfl H.n_isinstance rfl H.n_int B_int (d_var rfl)))) (dw_or1 (dt_cmp (o := .ne) hr rfl (d_var rfl) (d_var rfl)))))) (dss (ds_ret d_bl) dss_nil) dss_nil) dss_nil)) dss_nil)) dss_nil)) dss_nil))) (dss (ds_ret d_bl) dss_nil)))
theorem w503 (H : Hyp P w K mg base k) {f : Addr} {fd : FuncData} (F : Fun K "_law_setting" "_law_setting" tp503 f fd) : FnOk P w K mg base (L2.CX P w) (2 * (k + 1)) f fd ["cloth", "most"] (SpX K (arOf PD 503) (runX PD WF (k + 1) 503)) :=
  fun_fw (j := 2 * k + 1) F sc503 (df := ⟨2, 10, b503⟩) rfl rfl rfl H.sub fun cdv A outer s Hh E hr1 tk hp =>
    have hr := hr1.mono (Nat.le_succ (2 * k))
    show PSs _ _ (rdSs _ _ b503) from
    (dss (ds_set sc503.nd rfl (by first | exact .inl rfl | exact .inr rfl) (d_bin (o := .add) rfl d_int (d_call H.c501 hr rfl (d_cons (d_var rfl) (d_cons d_str (d_cons (d_var rfl) d_nil)))))) (dss (ds_set sc503.nd rfl (by first | exact .inl rfl | exact .inr rfl) (d_bin (o := .add) rfl d_int (d_call H.c501 hr rfl (d_cons (d_var rfl) (d_cons d_str (d_cons (d_ife (dt_cmp (o := .gt) hr rfl (d_var rfl) d_int) d_int (d_ife (dt_cmp (o := .gt) hr rfl (d_var rfl) d_int) d_int d_int)) d_nil)))))) (dss (ds_set sc503.nd rfl (by first | exact .inl rfl | exact .inr rfl) (d_call H.c501 hr rfl (d_cons (d_var rfl) (d_cons d_str (d_cons d_int d_nil))))) (dss (ds_set sc503.nd rfl (by first | exact .inl rfl | exact .inr rfl) (d_newL d_nil)) (dss (ds_for hp rfl (di_rng1 rfl H.n_range (d_bin (o := .add) rfl d_int (d_call H.c501 hr rfl (d_cons (d_var rfl) (d_cons d_str (d_cons d_int d_nil)))))) (dg_name sc503.nd rfl (by first | exact .inl rfl | exact .inr rfl)) (dss (ds_expr (d_app (d_var rfl) (d_tup (d_cons (d_idx (d_tup (d_cons d_str (d_cons d_str (d_cons d_str d_nil)))) (d_var rfl)) (d_cons (d_idx (d_tup (d_cons d_str (d_cons d_str (d_cons d_str (d_cons d_str (d_cons d_str d_nil)))))) (d_call H.c501 hr rfl (d_cons (d_var rfl) (d_cons d_str (d_cons d_int d_nil))))) d_nil))))) dss_nil)) (dss (ds_set sc503.nd rfl (by first | exact .inl rfl | exact .inr rfl) (d_slc (d_tup (d_cons d_str (d_cons d_str (d_cons d_str (d_cons d_str (d_cons d_str (d_cons d_str (d_cons d_str (d_cons d_str (d_cons d_str d_nil)))))))))) (d_o1 (d_var rfl)) (d_o1 (d_bin (o := .add) rfl (d_var rfl) (d_var rfl))))) (dss (ds_set sc503.nd rfl (by first | exact .inl rfl | exact .inr rfl) (d_tup (d_cons d_str (d_cons d_str (d_cons d_str (d_cons d_str (d_cons d_str (d_cons d_str (d_cons d_str (d_cons d_str d_nil)))))))))) (dss (ds_setLc [("at", 6)] rfl sc503.nd rfl rfl (blkOk_by rfl) (di_rng1 rfl H.n_range (d_var rfl)) (fun _ _ _ _ _ => (dg_name sc503.nd rfl (by first | exact .inl rfl | exact .inr rfl))) (fun _ _ _ _ _ => dts_nil) (fun _ _ _ _ _ => (d_tup (d_cons (d_idx (d_var rfl) (d_var rfl)) (d_cons (d_call H.c501 hr rfl (d_cons (d_var rfl) (d_cons d_str (d_cons (d_len rfl H.n_len (d_var rfl)) d_nil)))) d_nil))))) (dss (ds_ret (d_tup (d_cons (d_var rfl) (d_cons (d_toTup rfl H.n_tuple (d_var rfl)) (d_cons (d_toTup rfl H.n_tuple (d_var rfl)) d_nil))))) dss_nil)))))))))
theorem w504 (H : Hyp P w K mg base k) {f : Addr} {fd : FuncData} (F : Fun K "_law_drawn" "_law_drawn" tp504 f fd) : FnOk P w K mg base (L2.CX P w) (2 * (k + 1)) f fd ["cloth", "setting"] (SpX K (arOf PD 504) (runX PD WF (k + 1) 504)) :=
  fun_fw (j := 2 * k + 1) F sc504 (df := ⟨2, 9, b504⟩) rfl rfl rfl H.sub fun cdv A outer s Hh E hr1 tk hp =>
    have hr := hr1.mono (Nat.le_succ (2 * k))
    show PSs _ _ (rdSs _ _ b504) from
    (dss (ds_set sc504.nd rfl (by first | exact .inl rfl | exact .inr rfl) (d_newLstRg rfl rfl H.n_list rfl H.n_range (d_len rfl H.n_len (d_idx (d_var rfl) d_int)))) (dss (ds_for hp rfl (di_rng1 rfl H.n_range (d_len rfl H.n_len (d_idx (d_var rfl) d_int))) (dg_name sc504.nd rfl (by first | exact .inl rfl | exact .inr rfl)) (dss (ds_setLc [("at", 8)] rfl sc504.nd rfl rfl (blkOk_by rfl) (di_rng1 rfl H.n_range (d_len rfl H.n_len (d_idx (d_var rfl) d_int))) (fun _ _ _ _ _ => (dg_name sc504.nd rfl (by first | exact .inl rfl | exact .inr rfl))) (fun _ _ _ _ _ => (dts_one (dt_cmp (o := .eq) hr rfl (d_idx (d_idx (d_idx (d_var rfl) d_int) (d_var rfl)) d_int) (d_var rfl)))) (fun _ _ _ _ _ => (d_var rfl))) (dss (ds_par rfl sc504.nd rfl rfl (d_idx (d_idx (d_idx (d_var rfl) d_int) (d_var rfl)) d_int) (d_newLst rfl H.n_list (d_var rfl))) (dss (ds_if (dt_cmp (o := .eq) hr rfl (d_var rfl) d_str) (dss (ds_par rfl sc504.nd rfl rfl (d_newLst rfl H.n_list (d_var rfl)) (d_newL d_nil)) (dss (ds_while hp (dt_cmp (o := .gt) hr rfl (d_len rfl H.n_len (d_var rfl)) d_int) (dss (ds_expr (d_app (d_var rfl) (d_popAt (d_var rfl) (d_call H.c501 hr rfl (d_cons (d_var rfl) (d_cons d_str (d_cons (d_len rfl H.n_len (d_var rfl)) d_nil))))))) dss_nil)) dss_nil)) (dss (ds_if (dt_bop (dw_and (dt_cmp (o := .eq) hr rfl (d_var rfl) d_str) (dw_and1 (dt_cmp (o := .gt) hr rfl (d_len rfl H.n_len (d_var rfl)) d_int)))) (dss (ds_set sc504.nd rfl (by first | exact .inl rfl | exact .inr rfl) (d_call H.c501 hr rfl (d_cons (d_var rfl) (d_cons d_str (d_cons (d_len rfl H.n_len (d_var rfl)) d_nil))))) (dss (ds_set sc504.nd rfl (by first | exact .inl rfl | exact .inr rfl) (d_bin (o := .add) rfl (d_slc (d_var rfl) (d_o1 (d_var rfl)) d_o0) (d_slc (d_var rfl) d_o0 (d_o1 (d_var rfl))))) dss_nil)) (dss (ds_if (dt_bop (dw_and (dt_cmp (o := .eq) hr rfl (d_var rfl) d_str) (dw_and1 (dt_cmp (o := .eq) hr rfl (d_call H.c501 hr rfl (d_cons (d_var rfl) (d_cons d_str (d_cons d_int d_nil)))) d_int)))) (dss (ds_set sc504.nd rfl (by first | exact .inl rfl | exact .inr rfl) (d_rev (p4 := ⟨0, 0, 0, 0⟩) (d_var rfl))) dss_nil) dss_nil) dss_nil)) dss_nil)) (dss (ds_for hp rfl (di_rng1 rfl H.n_range (d_len rfl H.n_len (d_var rfl))) (dg_name sc504.nd rfl (by first | exact .inl rfl | exact .inr rfl)) (dss (ds_seti (d_idx (d_var rfl) (d_var rfl)) (d_var rfl) (d_idx (d_var rfl) (d_var rfl))) dss_nil)) dss_nil))))) (dss (ds_ret (d_toTup rfl H.n_tuple (d_var rfl))) dss_nil)))
theorem w505 (H : Hyp P w K mg base k) {f : Addr} {fd : FuncData} (F : Fun K "_law_is_laying" "_law_is_laying" tp505 f fd) : FnOk P w K mg base (L2.CX P w) (2 * (k + 1)) f fd ["setting", "thing"] (SpX K (arOf PD 505) (runX PD WF (k + 1) 505)) :=
  fun_fw (j := 2 * k + 1) F sc505 (df := ⟨2, 9, b505⟩) rfl rfl rfl H.sub fun cdv A outer s Hh E hr1 tk hp =>
    have hr := hr1.mono (Nat.le_succ (2 * k))
    show PSs _ _ (rdSs _ _ b505) from
    (dss (ds_set sc505.nd rfl (by first | exact .inl rfl | exact .inr rfl) (d_len rfl H.n_len (d_idx (d_var rfl) d_int))) (dss (ds_if (dt_bop (dw_or (dt_not (dt_tru (d_isi rfl H.n_isinstance rfl H.n_tuple B_tuple (d_var rfl)))) (dw_or (dt_cmp (o := .ne) hr rfl (d_len rfl H.n_len (d_var rfl)) (d_var rfl)) (dw_or1 (dt_cmp (o := .gt) hr rfl (d_len rfl H.n_len (d_lc [("place", 7)] rfl sc505.nd (blkOk_by rfl) (di_seq (d_var rfl)) (fun _ _ _ _ _ => (dg_name sc505.nd rfl (by first | exact .inl rfl | exact .inr rfl))) (fun _ _ _ _ _ => (dts_one (dt_bop (dw_or (dt_tru (d_isi rfl H.n_isinstance rfl H.n_bool B_bool (d_var rfl))) (dw_or1 (dt_not (dt_tru (d_isi rfl H.n_isinstance rfl H.n_int B_int (d_var rfl))))))))) (fun _ _ _ _ _ => d_int))) d_int))))) (dss (ds_ret d_bl) dss_nil) dss_nil) (dss (ds_if (dt_cmp (o := .neD) hr rfl (d_sorted hr rfl H.n_sorted (d_var rfl)) (d_lstRg rfl rfl H.n_list rfl H.n_range (d_var rfl))) (dss (ds_ret d_bl) dss_nil) dss_nil) (dss (ds_for hp rfl (di_rng1 rfl H.n_range (d_len rfl H.n_len (d_idx (d_var rfl) d_int))) (dg_name sc505.nd rfl (by first | exact .inl rfl | exact .inr rfl)) (dss (ds_set sc505.nd rfl (by first | exact .inl rfl | exact .inr rfl) (d_lc [("at", 8)] rfl sc505.nd (blkOk_by rfl) (di_rng1 rfl H.n_range (d_var rfl)) (fun _ _ _ _ _ => (dg_name sc505.nd rfl (by first | exact .inl rfl | exact .inr rfl))) (fun _ _ _ _ _ => (dts_one (dt_cmp (o := .eq) hr rfl (d_idx (d_idx (d_idx (d_var rfl) d_int) (d_var rfl)) d_int) (d_var rfl)))) (fun _ _ _ _ _ => (d_var rfl)))) (dss (ds_par rfl sc505.nd rfl rfl (d_lc [("at", 8)] rfl sc505.nd (blkOk_by rfl) (di_seq (d_var rfl)) (fun _ _ _ _ _ => (dg_name sc505.nd rfl (by first | exact .inl rfl | exact .inr rfl))) (fun _ _ _ _ _ => dts_nil) (fun _ _ _ _ _ => (d_idx (d_var rfl) (d_var rfl)))) (d_idx (d_idx (d_idx (d_var rfl) d_int) (d_var rfl)) d_int)) (dss (ds_if (dt_cmp (o := .eq) hr rfl (d_var rfl) d_str) (dss (ds_if (dt_cmp (o := .neD) hr rfl (d_sorted hr rfl H.n_sorted (d_var rfl)) (d_var rfl)) (dss (ds_ret d_bl) dss_nil) dss_nil) dss_nil) (dss (ds_if (dt_cmp (o := .eq) hr rfl (d_var rfl) d_str) (dss (ds_if (dt_cmp (o := .notin) hr rfl (d_var rfl) (d_lc [("at", 8)] rfl sc505.nd (blkOk_by rfl) (di_rng1 rfl H.n_range (d_max2 rfl rfl H.n_max d_int (d_len rfl H.n_len (d_var rfl)))) (fun _ _ _ _ _ => (dg_name sc505.nd rfl (by first | exact .inl rfl | exact .inr rfl))) (fun _ _ _ _ _ => dts_nil) (fun _ _ _ _ _ => (d_bin (o := .add) rfl (d_slc (d_var rfl) (d_o1 (d_var rfl)) d_o0) (d_slc (d_var rfl) d_o0 (d_o1 (d_var rfl))))))) (dss (ds_ret d_bl) dss_nil) dss_nil) dss_nil) (dss (ds_if (dt_bop (dw_and (dt_cmp (o := .neD) hr rfl (d_var rfl) (d_var rfl)) (dw_and1 (dt_bop (dw_or (dt_cmp (o := .eq) hr rfl (d_var rfl) d_str) (dw_or1 (dt_cmp (o := .neD) hr rfl (d_var rfl) (d_rev (p4 := ⟨0, 0, 0, 0⟩) (d_var rfl))))))))) (dss (ds_ret d_bl) dss_nil) dss_nil) dss_nil)) dss_nil)) dss_nil)))) (dss (ds_ret d_bl) dss_nil)))))
theorem w506 (H : Hyp P w K mg base k) {f : Addr} {fd : FuncData} (F : Fun K "_law_moved" "_law_moved" tp506 f fd) : FnOk P w K mg base (L2.CX P w) (2 * (k + 1)) f fd ["setting", "state", "deed"] (SpX K (arOf PD 506) (runX PD WF (k + 1) 506)) :=
  fun_fw (j := 2 * k + 1) F sc506 (df := ⟨3, 16, b506⟩) rfl rfl rfl H.sub fun cdv A outer s Hh E hr1 tk hp =>
    have hr := hr1.mono (Nat.le_succ (2 * k))
    show PSs _ _ (rdSs _ _ b506) from
    (dss (ds_asg (d_tup (d_cons (d_idx (d_var rfl) (d_negc (n := 1))) (d_cons (d_idx (d_var rfl) d_int) d_nil))) (dg_tup rfl (dg_cons (dg_name sc506.nd rfl (by first | exact .inl rfl | exact .inr rfl)) (dg_cons (dg_name sc506.nd rfl (by first | exact .inl rfl | exact .inr rfl)) dg_nil)))) (dss (ds_if (dt_cmp (o := .eq) hr rfl (d_var rfl) d_str) (dss (ds_ret (d_ife (dt_tru (d_call H.c505 hr rfl (d_cons (d_var rfl) (d_cons (d_idx (d_var rfl) d_int) d_nil)))) (d_toTup rfl H.n_tuple (d_lc [("place", 15)] rfl sc506.nd (blkOk_by rfl) (di_seq (d_idx (d_var rfl) d_int)) (fun _ _ _ _ _ => (dg_name sc506.nd rfl (by first | exact .inl rfl | exact .inr rfl))) (fun _ _ _ _ _ => dts_nil) (fun _ _ _ _ _ => (d_idx (d_var rfl) (d_var rfl))))) (d_tup (d_cons d_str (d_cons (d_negc (n := 1)) d_nil))))) dss_nil) dss_nil) (dss (ds_if (dt_cmp (o := .eq) hr rfl (d_var rfl) d_str) (dss (ds_ret (d_ife (dt_cmp (o := .eq) hr rfl (d_len rfl H.n_len (d_var rfl)) d_int) (d_tup (d_cons d_str (d_cons d_str (d_cons d_str d_nil)))) d_none)) dss_nil) dss_nil) (dss (ds_if (dt_cmp (o := .eq) hr rfl (d_var rfl) d_str) (dss (ds_asg (d_slc (d_var rfl) (d_o1 d_int) d_o0) (dg_tup rfl (dg_cons (dg_name sc506.nd rfl (by first | exact .inl rfl | exact .inr rfl)) (dg_cons (dg_name sc506.nd rfl (by first | exact .inl rfl | exact .inr rfl)) dg_nil)))) (dss (ds_if (dt_cmp (o := .ne) hr rfl (d_idx (d_idx (d_idx (d_var rfl) d_int) (d_var rfl)) d_int) (d_idx (d_idx (d_idx (d_var rfl) d_int) (d_var rfl)) d_int)) (dss (ds_ret (d_tup (d_cons d_str (d_cons d_str d_nil)))) dss_nil) dss_nil) (dss (ds_if (dt_cmp (o := .ne) hr rfl (d_idx (d_idx (d_idx (d_var rfl) d_int) (d_idx (d_idx (d_idx (d_var rfl) d_int) (d_var rfl)) d_int)) d_int) d_str) (dss (ds_ret (d_tup (d_cons d_str (d_cons d_str d_nil)))) dss_nil) dss_nil) (dss (ds_set sc506.nd rfl (by first | exact .inl rfl | exact .inr rfl) (d_newLst rfl H.n_list (d_var rfl))) (dss (ds_setp (p5 := ⟨0, 0, 0, 0⟩) rfl (d_idx (d_var rfl) (d_var rfl)) (d_idx (d_var rfl) (d_var rfl)) (d_var rfl) (d_var rfl) (d_var rfl) (d_var rfl)) (dss (ds_ret (d_toTup rfl H.n_tuple (d_var rfl))) dss_nil)))))) dss_nil) (dss (ds_asg (d_slc (d_var rfl) (d_o1 d_int) d_o0) (dg_tup rfl (dg_cons (dg_name sc506.nd rfl (by first | exact .inl rfl | exact .inr rfl)) (dg_cons (dg_name sc506.nd rfl (by first | exact .inl rfl | exact .inr rfl)) dg_nil)))) (dss (ds_par rfl sc506.nd rfl rfl (d_idx (d_idx (d_idx (d_var rfl) d_int) (d_var rfl)) d_int) (d_lc [("at", 12)] rfl sc506.nd (blkOk_by rfl) (di_rng1 rfl H.n_range (d_len rfl H.n_len (d_var rfl))) (fun _ _ _ _ _ => (dg_name sc506.nd rfl (by first | exact .inl rfl | exact .inr rfl))) (fun _ _ _ _ _ => (dts_one (dt_cmp (o := .eq) hr rfl (d_idx (d_idx (d_idx (d_var rfl) d_int) (d_var rfl)) d_int) (d_var rfl)))) (fun _ _ _ _ _ => (d_var rfl)))) (dss (ds_if (dt_cmp (o := .notin) hr rfl (d_var rfl) (d_tup (d_cons d_str (d_cons d_str d_nil)))) (dss (ds_ret (d_tup (d_cons d_str (d_cons d_str d_nil)))) dss_nil) dss_nil) (dss (ds_set sc506.nd rfl (by first | exact .inl rfl | exact .inr rfl) (d_newLst rfl H.n_list (d_var rfl))) (dss (ds_for hp rfl (di_rng1 rfl H.n_range (d_len rfl H.n_len (d_var rfl))) (dg_name sc506.nd rfl (by first | exact .inl rfl | exact .inr rfl)) (dss (ds_set sc506.nd rfl (by first | exact .inl rfl | exact .inr rfl) (d_ife (dt_cmp (o := .eq) hr rfl (d_bin (o := .mod) rfl (d_toInt rfl H.n_int (d_var rfl)) d_int) d_int) (d_bin (o := .sub) rfl (d_bin (o := .sub) rfl (d_len rfl H.n_len (d_var rfl)) d_int) (d_var rfl)) (d_var rfl))) (dss (ds_set sc506.nd rfl (by first | exact .inl rfl | exact .inr rfl) (d_ife (dt_cmp (o := .eq) hr rfl (d_var rfl) d_str) (d_bin (o := .mod) rfl (d_toInt rfl H.n_int (d_bin (o := .add) rfl (d_var rfl) (d_var rfl))) (d_len rfl H.n_len (d_var rfl))) (d_var rfl))) (dss (ds_seti (d_idx (d_var rfl) (d_idx (d_var rfl) (d_var rfl))) (d_var rfl) (d_idx (d_var rfl) (d_var rfl))) dss_nil)))) (dss (ds_ret (d_toTup rfl H.n_tuple (d_var rfl))) dss_nil))))))))))
theorem w507 (H : Hyp P w K mg base k) {f : Addr} {fd : FuncData} (F : Fun K "_law_told" "_law_told" tp507 f fd) : FnOk P w K mg base (L2.CX P w) (2 * (k + 1)) f fd ["table", "deed"] (SpX K (arOf PD 507) (runX PD WF (k + 1) 507)) :=
  fun_fw (j := 2 * k + 1) F sc507 (df := ⟨2, 3, b507⟩) rfl rfl rfl H.sub fun cdv A outer s Hh E hr1 tk hp =>
    have hr := hr1.mono (Nat.le_succ (2 * k))
    show PSs _ _ (rdSs _ _ b507) from
    (dss (ds_try rfl rfl sc507.nd tk (fun W2 pn2 xe2 tk hp => (dss (ds_if (dt_cmp (o := .eq) hr rfl (d_idx (d_var rfl) d_int) d_str) (dss (ds_retX (dx_tup (dx_cons (dx_e d_str) (dx_cons (dx_meth tk H.cl_Table H.m16 hr (d_var rfl) (d_cons (d_idx (d_var rfl) d_int) d_nil)) dx_nil)))) dss_nil) dss_nil) (dss (ds_if (dt_cmp (o := .eq) hr rfl (d_idx (d_var rfl) d_int) d_str) (dss (ds_retX (dx_tup (dx_cons (dx_e d_str) (dx_cons (dx_meth tk H.cl_Table H.m17 hr (d_var rfl) (d_cons (d_idx (d_var rfl) d_int) (d_cons (d_idx (d_var rfl) d_int) d_nil))) dx_nil)))) dss_nil) dss_nil) (dss (ds_retX (dx_tup (dx_cons (dx_e d_str) (dx_cons (dx_ife (dt_cmp (o := .eq) hr rfl (d_idx (d_var rfl) d_int) d_str) (dx_meth tk H.cl_Table H.m18 hr (d_var rfl) (d_cons (d_idx (d_var rfl) d_int) (d_cons (d_idx (d_var rfl) d_int) d_nil))) (dx_meth0 tk H.cl_Table H.m19 hr (d_var rfl))) dx_nil)))) dss_nil)))) (dhd_as rfl rfl (names_own rfl H.g_BadRow) (fun a0 oe cls dd pn hz hf => (dh_tup (dh_cons (dh_e d_str) (dh_cons (dh_xf H.xf_BadRow H.no_BadRow_at hz hf (d_var (fx := fun _ _ _ => none) (ar := fun _ => 0) rfl)) dh_nil)))) (dhd_as rfl rfl (names_own rfl H.g_BadStep) (fun a0 oe cls dd pn hz hf => (dh_tup (dh_cons (dh_e d_str) (dh_cons (dh_xf H.xf_BadStep H.no_BadStep_word hz hf (d_var (fx := fun _ _ _ => none) (ar := fun _ => 0) rfl)) dh_nil)))) (dhd_as rfl rfl (names_own rfl H.g_NoSuch) (fun a0 oe cls dd pn hz hf => (dh_tup (dh_cons (dh_e d_str) (dh_cons (dh_xf H.xf_NoSuch H.no_NoSuch_word hz hf (d_var (fx := fun _ _ _ => none) (ar := fun _ => 0) rfl)) (dh_cons (dh_xf H.xf_NoSuch H.no_NoSuch_name hz hf (d_var (fx := fun _ _ _ => none) (ar := fun _ => 0) rfl)) dh_nil))))) (dhd (names_own rfl H.g_HoweverError) (fun a0 oe cls dd pn hz hf => (dh_e (d_tup (d_cons d_str d_nil)))) dhd_nil))))) dss_nil)
theorem w508 (H : Hyp P w K mg base k) {f : Addr} {fd : FuncData} (F : Fun K "_law_deed" "_law_deed" tp508 f fd) : FnOk P w K mg base (L2.CX P w) (2 * (k + 1)) f fd ["cloth", "setting"] (SpX K (arOf PD 508) (runX PD WF (k + 1) 508)) :=
  fun_fw (j := 2 * k + 1) F sc508 (df := ⟨2, 8, b508⟩) rfl rfl rfl H.sub fun cdv A outer s Hh E hr1 tk hp =>
    have hr := hr1.mono (Nat.le_succ (2 * k))
    show PSs _ _ (rdSs _ _ b508) from
    (dss (ds_set sc508.nd rfl (by first | exact .inl rfl | exact .inr rfl) (d_len rfl H.n_len (d_idx (d_var rfl) d_int))) (dss (ds_set sc508.nd rfl (by first | exact .inl rfl | exact .inr rfl) (d_call H.c501 hr rfl (d_cons (d_var rfl) (d_cons d_str (d_cons d_int d_nil))))) (dss (ds_if (dt_cmp (o := .lt) hr rfl (d_var rfl) d_int) (dss (ds_set sc508.nd rfl (by first | exact .inl rfl | exact .inr rfl) (d_call H.c504 hr rfl (d_cons (d_var rfl) (d_cons (d_var rfl) d_nil)))) (dss (ds_set sc508.nd rfl (by first | exact .inl rfl | exact .inr rfl) (d_tup (d_cons d_none (d_cons d_int (d_cons d_str (d_cons (d_toLst rfl H.n_list (d_var rfl)) (d_cons (d_slc (d_var rfl) d_o0 (d_o1 (d_negc (n := 1)))) (d_cons (d_bin (o := .add) rfl (d_var rfl) (d_tup (d_cons d_int d_nil))) (d_cons (d_rev (p4 := ⟨0, 0, 0, 0⟩) (d_var rfl)) (d_cons (d_bin (o := .mul) rfl (d_tup (d_cons d_bl d_nil)) (d_var rfl)) (d_cons (d_bin (o := .mul) rfl (d_tup (d_cons d_str d_nil)) (d_var rfl)) (d_cons (d_bin (o := .mul) rfl (d_tup (d_cons d_int d_nil)) (d_var rfl)) (d_cons (d_toTup rfl H.n_tuple (d_lc [("place", 7)] rfl sc508.nd (blkOk_by rfl) (di_seq (d_var rfl)) (fun _ _ _ _ _ => (dg_name sc508.nd rfl (by first | exact .inl rfl | exact .inr rfl))) (fun _ _ _ _ _ => dts_nil) (fun _ _ _ _ _ => (d_bin (o := .sub) rfl (d_var rfl) d_int)))) (d_cons (d_rev (p4 := ⟨0, 0, 0, 0⟩) (d_tupRg rfl rfl H.n_tuple rfl H.n_range (d_var rfl))) d_nil)))))))))))))) (dss (ds_ret (d_tup (d_cons d_str (d_cons (d_ife (dt_cmp (o := .eq) hr rfl (d_var rfl) d_int) (d_idx (d_var rfl) (d_call H.c501 hr rfl (d_cons (d_var rfl) (d_cons d_str (d_cons d_int d_nil))))) (d_var rfl)) d_nil)))) dss_nil))) dss_nil) (dss (ds_if (dt_cmp (o := .lt) hr rfl (d_var rfl) d_int) (dss (ds_ret (d_tup (d_cons d_str (d_cons (d_call H.c501 hr rfl (d_cons (d_var rfl) (d_cons d_str (d_cons (d_var rfl) d_nil)))) (d_cons (d_call H.c501 hr rfl (d_cons (d_var rfl) (d_cons d_str (d_cons (d_var rfl) d_nil)))) d_nil))))) dss_nil) dss_nil) (dss (ds_if (dt_cmp (o := .lt) hr rfl (d_var rfl) d_int) (dss (ds_set sc508.nd rfl (by first | exact .inl rfl | exact .inr rfl) (d_tup (d_cons d_int (d_cons d_int (d_cons (d_negc (n := 1)) (d_cons d_int (d_cons (d_negc (n := 2)) (d_cons d_int (d_cons d_int (d_cons (d_bin (o := .pow) rfl d_int d_int) (d_cons (d_bin (o := .sub) rfl (d_neg (d_bin (o := .pow) rfl d_int d_int)) d_int) d_nil))))))))))) (dss (ds_ret (d_tup (d_cons d_str (d_cons (d_call H.c501 hr rfl (d_cons (d_var rfl) (d_cons d_str (d_cons (d_len rfl H.n_len (d_idx (d_var rfl) d_int)) d_nil)))) (d_cons (d_idx (d_var rfl) (d_call H.c501 hr rfl (d_cons (d_var rfl) (d_cons d_str (d_cons d_int d_nil))))) d_nil))))) dss_nil)) dss_nil) (dss (ds_ret (d_tup (d_cons d_str d_nil))) dss_nil))))))
theorem w509 (H : Hyp P w K mg base k) {f : Addr} {fd : FuncData} (F : Fun K "_law_stands" "_law_stands" tp509 f fd) : FnOk P w K mg base (L2.CX P w) (2 * (k + 1)) f fd ["table", "row", "state"] (SpX K (arOf PD 509) (runX PD WF (k + 1) 509)) :=
  fun_fw (j := 2 * k + 1) F sc509 (df := ⟨3, 5, b509⟩) rfl rfl rfl H.sub fun cdv A outer s Hh E hr1 tk hp =>
    have hr := hr1.mono (Nat.le_succ (2 * k))
    show PSs _ _ (rdSs _ _ b509) from
    (dss (ds_set sc509.nd rfl (by first | exact .inl rfl | exact .inr rfl) (d_idx (d_var rfl) (d_negc (n := 1)))) (dss (ds_ret (d_call H.c502 hr rfl (d_cons (d_tup (d_cons (d_meth0 H.cl_Table H.m20 hr (d_var rfl)) (d_cons (d_meth0 H.cl_Table H.m21 hr (d_var rfl)) (d_cons (d_meth0 H.cl_Table H.m22 hr (d_var rfl)) d_nil)))) (d_cons (d_tup (d_cons (d_toTup rfl H.n_tuple (d_lc [("place", 4)] rfl sc509.nd (blkOk_by rfl) (di_seq (d_var rfl)) (fun _ _ _ _ _ => (dg_name sc509.nd rfl (by first | exact .inl rfl | exact .inr rfl))) (fun _ _ _ _ _ => dts_nil) (fun _ _ _ _ _ => (d_idx (d_var rfl) (d_var rfl))))) (d_cons (d_var rfl) (d_cons (d_bin (o := .sub) rfl (d_len rfl H.n_len (d_var rfl)) d_int) d_nil)))) d_nil)))) dss_nil))
theorem w510 (H : Hyp P w K mg base k) {f : Addr} {fd : FuncData} (F : Fun K "_law_session" "_law_session" tp510 f fd) : FnOk P w K mg base (L2.CX P w) (2 * (k + 1)) f fd ["cloth"] (SpX K (arOf PD 510) (runX PD WF (k + 1) 510)) :=
  fun_fw (j := 2 * k + 1) F sc510 (df := ⟨1, 12, b510⟩) rfl rfl rfl H.sub fun cdv A outer s Hh E hr1 tk hp =>
    have hr := hr1.mono (Nat.le_succ (2 * k))
    show PSs _ _ (rdSs _ _ b510) from
    (dss (ds_set sc510.nd rfl (by first | exact .inl rfl | exact .inr rfl) (d_newL d_nil)) (dss (ds_for hp rfl (di_rng1 rfl H.n_range d_int) (dg_name sc510.nd rfl (by first | exact .inl rfl | exact .inr rfl)) (dss (ds_set sc510.nd rfl (by first | exact .inl rfl | exact .inr rfl) (d_ife (dt_bop (dw_or (dt_cmp (o := .eq) hr rfl (d_var rfl) d_int) (dw_or1 (dt_cmp (o := .eq) hr rfl (d_call H.c501 hr rfl (d_cons (d_var rfl) (d_cons d_str (d_cons d_int d_nil)))) d_int)))) (d_call H.c503 hr rfl (d_cons (d_var rfl) (d_cons d_int d_nil))) (d_idx (d_idx (d_var rfl) d_int) d_int))) (dss (ds_set sc510.nd rfl (by first | exact .inl rfl | exact .inr rfl) (d_toTup rfl H.n_tuple (d_lc [("place", 11)] rfl sc510.nd (blkOk_by rfl) (di_seq (d_idx (d_var rfl) d_int)) (fun _ _ _ _ _ => (dg_name sc510.nd rfl (by first | exact .inl rfl | exact .inr rfl))) (fun _ _ _ _ _ => dts_nil) (fun _ _ _ _ _ => (d_call H.c501 hr rfl (d_cons (d_var rfl) (d_cons d_str (d_cons (d_len rfl H.n_len (d_idx (d_var rfl) d_int)) d_nil)))))))) (dss (ds_expr (d_app (d_var rfl) (d_tup (d_cons (d_mk H.cl_Table H.m14 hr1 rfl (d_cons (d_var rfl) (d_cons (d_var rfl) d_nil))) (d_cons (d_var rfl) (d_cons (d_var rfl) (d_cons (d_newL (d_cons (d_tupRg rfl rfl H.n_tuple rfl H.n_range (d_len rfl H.n_len (d_var rfl))) d_nil)) d_nil))))))) dss_nil)))) (dss (ds_for hp rfl (di_rng1 rfl H.n_range d_int) (dg_name sc510.nd rfl (by first | exact .inl rfl | exact .inr rfl)) (dss (ds_asg (d_idx (d_var rfl) (d_call H.c501 hr rfl (d_cons (d_var rfl) (d_cons d_str (d_cons d_int d_nil))))) (dg_tup rfl (dg_cons (dg_name sc510.nd rfl (by first | exact .inl rfl | exact .inr rfl)) (dg_cons (dg_name sc510.nd rfl (by first | exact .inl rfl | exact .inr rfl)) (dg_cons (dg_name sc510.nd rfl (by first | exact .inl rfl | exact .inr rfl)) (dg_cons (dg_name sc510.nd rfl (by first | exact .inl rfl | exact .inr rfl)) dg_nil)))))) (dss (ds_set sc510.nd rfl (by first | exact .inl rfl | exact .inr rfl) (d_call H.c508 hr rfl (d_cons (d_var rfl) (d_cons (d_var rfl) d_nil)))) (dss (ds_set sc510.nd rfl (by first | exact .inl rfl | exact .inr rfl) (d_call H.c506 hr rfl (d_cons (d_var rfl) (d_cons (d_var rfl) (d_cons (d_var rfl) d_nil))))) (dss (ds_set sc510.nd rfl (by first | exact .inl rfl | exact .inr rfl) (d_and (d_cmp (o := .notN) hr rfl (d_var rfl) d_none) (d_one (d_isi rfl H.n_isinstance rfl H.n_str B_str (d_idx (d_var rfl) d_int))))) (dss (ds_if (dt_not (dt_tru (d_call H.c502 hr rfl (d_cons (d_call H.c507 hr rfl (d_cons (d_var rfl) (d_cons (d_var rfl) d_nil))) (d_cons (d_ife (dt_tru (d_var rfl)) (d_var rfl) (d_tup (d_cons d_str (d_cons d_none d_nil)))) d_nil))))) (dss (ds_ret d_bl) dss_nil) dss_nil) (dss (ds_if (dt_bop (dw_and (dt_cmp (o := .eq) hr rfl (d_idx (d_var rfl) d_int) d_str) (dw_and1 (dt_not (dt_tru (d_var rfl)))))) (dss (ds_expr (d_pop (d_var rfl))) dss_nil) (dss (ds_if (dt_not (dt_tru (d_var rfl))) (dss (ds_expr (d_app (d_var rfl) (d_var rfl))) dss_nil) dss_nil) dss_nil)) (dss (ds_if (dt_bop (dw_or (dt_not (dt_tru (d_call H.c509 hr rfl (d_cons (d_var rfl) (d_cons (d_var rfl) (d_cons (d_var rfl) d_nil)))))) (dw_or1 (dt_bop (dw_and (dt_cmp (o := .eq) hr rfl (d_bin (o := .mod) rfl (d_var rfl) d_int) d_int) (dw_and1 (dt_not (dt_tru (d_call H.c509 hr rfl (d_cons (d_idx (d_idx (d_var rfl) d_int) d_int) (d_cons (d_idx (d_idx (d_var rfl) d_int) d_int) (d_cons (d_idx (d_idx (d_var rfl) d_int) d_int) d_nil)))))))))))) (dss (ds_ret d_bl) dss_nil) dss_nil) (dss (ds_if (dt_bop (dw_and (dt_cmp (o := .eq) hr rfl (d_idx (d_var rfl) d_int) d_str) (dw_and1 (dt_not (dt_tru (d_call H.c502 hr rfl (d_cons (d_call H.c8 hr rfl (d_cons (d_var rfl) (d_cons (d_idx (d_var rfl) d_int) d_nil))) (d_cons (d_not (d_var rfl)) d_nil)))))))) (dss (ds_ret d_bl) dss_nil) dss_nil) (dss (ds_if (dt_bop (dw_and (dt_not (dt_tru (d_var rfl))) (dw_and (dt_cmp (o := .eq) hr rfl (d_idx (d_var rfl) d_int) d_str) (dw_and1 (dt_not (dt_tru (d_call H.c502 hr rfl (d_cons (d_tup (d_cons (d_call H.c9 hr rfl (d_cons (d_var rfl) (d_cons (d_idx (d_var rfl) d_int) d_nil))) (d_cons (d_call H.c12 hr rfl (d_cons (d_idx (d_var rfl) (d_negc (n := 2))) (d_cons (d_idx (d_var rfl) d_int) d_nil))) (d_cons (d_call H.c11 hr rfl (d_cons (d_var rfl) (d_cons (d_idx (d_var rfl) (d_negc (n := 1))) d_nil))) d_nil)))) (d_cons (d_tup (d_cons (d_len rfl H.n_len (d_var rfl)) (d_cons (d_idx (d_var rfl) (d_negc (n := 1))) (d_cons (d_meth0 H.cl_Table H.m20 hr (d_var rfl)) d_nil)))) d_nil))))))))) (dss (ds_ret d_bl) dss_nil) dss_nil) dss_nil)))))))))) (dss_frz (dss (ds_for hp rfl (di_seq (d_var rfl)) (dg_tup rfl (dg_cons (dg_name sc510.nd rfl (by first | exact .inl rfl | exact .inr rfl)) (dg_cons (dg_name sc510.nd rfl (by first | exact .inl rfl | exact .inr rfl)) (dg_cons (dg_name sc510.nd rfl (by first | exact .inl rfl | exact .inr rfl)) (dg_cons (dg_name sc510.nd rfl (by first | exact .inl rfl | exact .inr rfl)) dg_nil))))) (dss (ds_for hp rfl (di_rng1 rfl H.n_range (d_len rfl H.n_len (d_var rfl))) (dg_name sc510.nd rfl (by first | exact .inl rfl | exact .inr rfl)) (dss (ds_if (dt_not (dt_tru (d_call H.c502 hr rfl (d_cons (d_call H.c507 hr rfl (d_cons (d_var rfl) (d_cons (d_tup (d_cons d_str d_nil)) d_nil))) (d_cons (d_ife (dt_cmp (o := .gt) hr rfl (d_len rfl H.n_len (d_var rfl)) d_int) (d_tup (d_cons d_str (d_cons d_none d_nil))) (d_tup (d_cons d_str (d_cons d_str (d_cons d_str d_nil))))) d_nil))))) (dss (ds_ret d_bl) dss_nil) dss_nil) (dss (ds_if (dt_cmp (o := .gt) hr rfl (d_len rfl H.n_len (d_var rfl)) d_int) (dss (ds_expr (d_pop (d_var rfl))) dss_nil) dss_nil) (dss (ds_if (dt_not (dt_tru (d_call H.c509 hr rfl (d_cons (d_var rfl) (d_cons (d_var rfl) (d_cons (d_var rfl) d_nil)))))) (dss (ds_ret d_bl) dss_nil) dss_nil) dss_nil)))) dss_nil)) (dss (ds_ret d_bl) dss_nil))))))
theorem w511 (H : Hyp P w K mg base k) {f : Addr} {fd : FuncData} (F : Fun K "_law_hand" "_law_hand" tp511 f fd) : FnOk P w K mg base (L2.CX P w) (2 * (k + 1)) f fd [] (SpX K (arOf PD 511) (runX PD WF (k + 1) 511)) :=
  fun_fw (j := 2 * k + 1) F sc511 (df := ⟨0, 7, b511⟩) rfl rfl rfl H.sub fun cdv A outer s Hh E hr1 tk hp =>
    have hr := hr1.mono (Nat.le_succ (2 * k))
    show PSs _ _ (rdSs _ _ b511) from
    (dss (ds_set sc511.nd rfl (by first | exact .inl rfl | exact .inr rfl) (d_tup (d_cons (d_tup (d_cons d_str (d_cons d_str d_nil))) (d_cons (d_tup (d_cons (d_tup (d_cons d_str (d_cons d_str d_nil))) (d_cons (d_tup (d_cons d_str (d_cons d_str d_nil))) d_nil))) (d_cons (d_tup (d_cons (d_tup (d_cons d_str (d_cons d_int d_nil))) (d_cons (d_tup (d_cons d_str (d_cons d_int d_nil))) (d_cons (d_tup (d_cons d_str (d_cons d_int d_nil))) (d_cons (d_tup (d_cons d_str (d_cons d_int d_nil))) (d_cons (d_tup (d_cons d_str (d_cons d_int d_nil))) (d_cons (d_tup (d_cons d_str (d_cons d_int d_nil))) d_nil))))))) d_nil))))) (dss (ds_set sc511.nd rfl (by first | exact .inl rfl | exact .inr rfl) (d_mkK0 H.cl_Table H.mk14_0_2_1 hr1 rfl (d_k (d_tup (d_cons d_int (d_cons d_int (d_cons d_int (d_cons d_int (d_cons d_int (d_cons d_int d_nil))))))) (d_k (d_var rfl) d_k0)))) (dss (ds_set sc511.nd rfl (by first | exact .inl rfl | exact .inr rfl) (d_lst (d_cons (d_call H.c507 hr rfl (d_cons (d_var rfl) (d_cons (d_tup (d_cons d_str (d_cons d_int (d_cons (d_negc (n := 2)) d_nil)))) d_nil))) (d_cons (d_call H.c507 hr rfl (d_cons (d_var rfl) (d_cons (d_tup (d_cons d_str (d_cons d_int (d_cons d_int d_nil)))) d_nil))) (d_cons (d_meth0 H.cl_Table H.m20 hr (d_var rfl)) (d_cons (d_meth0 H.cl_Table H.m21 hr (d_var rfl)) (d_cons (d_meth0 H.cl_Table H.m22 hr (d_var rfl)) (d_cons (d_call H.c507 hr rfl (d_cons (d_var rfl) (d_cons (d_tup (d_cons d_str (d_cons d_int (d_cons d_int d_nil)))) d_nil))) (d_cons (d_call H.c507 hr rfl (d_cons (d_var rfl) (d_cons (d_tup (d_cons d_str (d_cons d_int (d_cons d_int d_nil)))) d_nil))) (d_cons (d_call H.c507 hr rfl (d_cons (d_var rfl) (d_cons (d_tup (d_cons d_str (d_cons d_int (d_cons d_int d_nil)))) d_nil))) (d_cons (d_methK0 H.cl_Table H.mk17_0_1_2 hr (d_var rfl) (d_k d_int (d_k d_int d_k0))) (d_cons (d_meth0 H.cl_Table H.m22 hr (d_var rfl)) (d_cons (d_methK0 H.cl_Table H.mk18_0_1_2 hr (d_var rfl) (d_k d_int (d_k d_int d_k0))) (d_cons (d_meth0 H.cl_Table H.m19 hr (d_var rfl)) (d_cons (d_meth0 H.cl_Table H.m19 hr (d_var rfl)) (d_cons (d_meth0 H.cl_Table H.m19 hr (d_var rfl)) (d_cons (d_meth0 H.cl_Table H.m21 hr (d_var rfl)) (d_cons (d_methK0 H.cl_Table H.mk16_0_1 hr (d_var rfl) (d_k (d_tup (d_cons d_int (d_cons d_int (d_cons d_int (d_cons d_int (d_cons d_int (d_cons d_int d_nil))))))) d_k0)) (d_cons (d_meth0 H.cl_Table H.m20 hr (d_var rfl)) d_nil))))))))))))))))))) (dss (ds_set sc511.nd rfl (by first | exact .inl rfl | exact .inr rfl) (d_lst (d_cons (d_tup (d_cons d_str (d_cons d_none d_nil))) (d_cons (d_tup (d_cons d_str (d_cons d_none d_nil))) (d_cons (d_tup (d_cons d_int (d_cons d_int (d_cons d_int (d_cons d_int (d_cons d_int (d_cons d_int d_nil))))))) (d_cons (d_tup (d_cons d_int (d_cons d_int (d_cons d_int (d_cons d_int (d_cons d_int (d_cons d_int d_nil))))))) (d_cons d_int (d_cons (d_tup (d_cons d_str (d_cons d_str d_nil))) (d_cons (d_tup (d_cons d_str (d_cons d_str d_nil))) (d_cons (d_tup (d_cons d_str (d_cons d_str d_nil))) (d_cons d_none (d_cons d_int (d_cons d_none (d_cons d_none (d_cons d_none (d_cons d_none (d_cons (d_tup (d_cons d_int (d_cons d_int (d_cons d_int (d_cons d_int (d_cons d_int (d_cons d_int d_nil))))))) (d_cons d_none (d_cons (d_tup (d_cons d_int (d_cons d_int (d_cons d_int (d_cons d_int (d_cons d_int (d_cons d_int d_nil))))))) d_nil))))))))))))))))))) (dss (ds_set sc511.nd rfl (by first | exact .inl rfl | exact .inr rfl) (d_mk H.cl_Table H.m14 hr1 rfl (d_cons (d_tup (d_cons (d_tup (d_cons d_str (d_cons d_str d_nil))) (d_cons (d_tup (d_cons (d_tup (d_cons d_str (d_cons d_str d_nil))) (d_cons (d_tup (d_cons d_str (d_cons d_str d_nil))) d_nil))) (d_cons (d_tup (d_cons (d_tup (d_cons d_str (d_cons d_int d_nil))) (d_cons (d_tup (d_cons d_str (d_cons d_int d_nil))) (d_cons (d_tup (d_cons d_str (d_cons d_int d_nil))) d_nil)))) d_nil)))) (d_cons (d_tup (d_cons d_int (d_cons d_int (d_cons d_int d_nil)))) d_nil)))) (dss (ds_set sc511.nd rfl (by first | exact .inl rfl | exact .inr rfl) (d_lst (d_cons (d_meth H.cl_Table H.m18 hr (d_var rfl) (d_cons d_int (d_cons (d_negc (n := 3)) d_nil))) (d_cons (d_meth0 H.cl_Table H.m20 hr (d_var rfl)) (d_cons (d_meth H.cl_Table H.m18 hr (d_var rfl) (d_cons d_int (d_cons d_int d_nil))) (d_cons (d_meth0 H.cl_Table H.m20 hr (d_var rfl)) (d_cons (d_meth H.cl_Table H.m18 hr (d_var rfl) (d_cons d_int (d_cons d_int d_nil))) (d_cons (d_meth0 H.cl_Table H.m22 hr (d_var rfl)) (d_cons (d_call H.c507 hr rfl (d_cons (d_var rfl) (d_cons (d_tup (d_cons d_str (d_cons (d_tup (d_cons d_int (d_cons d_int (d_cons d_int d_nil)))) d_nil))) d_nil))) (d_cons (d_meth0 H.cl_Table H.m20 hr (d_var rfl)) (d_cons (d_meth0 H.cl_Table H.m21 hr (d_var rfl)) d_nil))))))))))) (dss (ds_set sc511.nd rfl (by first | exact .inl rfl | exact .inr rfl) (d_lst (d_cons d_none (d_cons (d_tup (d_cons d_int (d_cons d_int (d_cons d_int d_nil)))) (d_cons d_none (d_cons (d_tup (d_cons d_int (d_cons d_int (d_cons d_int d_nil)))) (d_cons d_none (d_cons d_int (d_cons (d_tup (d_cons d_str (d_cons d_none d_nil))) (d_cons (d_tup (d_cons d_int (d_cons d_int (d_cons d_int d_nil)))) (d_cons (d_tup (d_cons d_int (d_cons d_int (d_cons d_int d_nil)))) d_nil))))))))))) (dss (ds_ret (d_and (d_call H.c502 hr rfl (d_cons (d_var rfl) (d_cons (d_var rfl) d_nil))) (d_one (d_call H.c502 hr rfl (d_cons (d_var rfl) (d_cons (d_var rfl) d_nil)))))) dss_nil))))))))
theorem w512 (H : Hyp P w K mg base k) {f : Addr} {fd : FuncData} (F : Fun K "law" "law" tp512 f fd) : FnOk P w K mg base (L2.CX P w) (2 * (k + 1)) f fd ["script"] (SpX K (arOf PD 512) (runX PD WF (k + 1) 512)) :=
  fun_fw (j := 2 * k + 1) F sc512 (df := ⟨1, 1, b512⟩) rfl rfl rfl H.sub fun cdv A outer s Hh E hr1 tk hp =>
    have hr := hr1.mono (Nat.le_succ (2 * k))
    show PSs _ _ (rdSs _ _ b512) from
    (dss (ds_ret (d_and (d_call0 H.c511 hr rfl) (d_one (d_call H.c510 hr rfl (d_cons (d_call H.c500 hr rfl (d_cons (d_var rfl) d_nil)) d_nil))))) dss_nil)
/-- all defs, at every level -/
theorem hyp_all (X : Fx P w K mg base)
    {f0 : Addr} {fd0 : FuncData} (F0 : Fun K "is_integer" "is_integer" tp0 f0 fd0) (m0 : mg "is_integer" = some (.ref f0))
    {f1 : Addr} {fd1 : FuncData} (F1 : Fun K "tuple_of" "tuple_of" tp1 f1 fd1) (m1 : mg "tuple_of" = some (.ref f1))
    {f2 : Addr} {fd2 : FuncData} (F2 : Fun K "are_integers" "are_integers" tp2 f2 fd2) (m2 : mg "are_integers" = some (.ref f2))
    {f3 : Addr} {fd3 : FuncData} (F3 : Fun K "places_of" "places_of" tp3 f3 fd3) (m3 : mg "places_of" = some (.ref f3))
    {f4 : Addr} {fd4 : FuncData} (F4 : Fun K "trays_with" "trays_with" tp4 f4 fd4) (m4 : mg "trays_with" = some (.ref f4))
    {f5 : Addr} {fd5 : FuncData} (F5 : Fun K "turned" "turned" tp5 f5 fd5) (m5 : mg "turned" = some (.ref f5))
    {f6 : Addr} {fd6 : FuncData} (F6 : Fun K "own_layings" "own_layings" tp6 f6 fd6) (m6 : mg "own_layings" = some (.ref f6))
    {f7 : Addr} {fd7 : FuncData} (F7 : Fun K "is_own_laying" "is_own_laying" tp7 f7 fd7) (m7 : mg "is_own_laying" = some (.ref f7))
    {f8 : Addr} {fd8 : FuncData} (F8 : Fun K "is_laying" "is_laying" tp8 f8 fd8) (m8 : mg "is_laying" = some (.ref f8))
    {f9 : Addr} {fd9 : FuncData} (F9 : Fun K "check_laying" "check_laying" tp9 f9 fd9) (m9 : mg "check_laying" = some (.ref f9))
    {f10 : Addr} {fd10 : FuncData} (F10 : Fun K "plain_laying" "plain_laying" tp10 f10 fd10) (m10 : mg "plain_laying" = some (.ref f10))
    {f11 : Addr} {fd11 : FuncData} (F11 : Fun K "laid" "laid" tp11 f11 fd11) (m11 : mg "laid" = some (.ref f11))
    {f12 : Addr} {fd12 : FuncData} (F12 : Fun K "composed" "composed" tp12 f12 fd12) (m12 : mg "composed" = some (.ref f12))
    {f13 : Addr} {fd13 : FuncData} (F13 : Fun K "with_parts" "with_parts" tp13 f13 fd13) (m13 : mg "with_parts" = some (.ref f13))
    {f14 : Addr} {fd14 : FuncData} (F14 : Fun K "__init__" "Table.__init__" tp14 f14 fd14) (m14 : Meth K (cAd K "Table") "__init__" f14)
    {f15 : Addr} {fd15 : FuncData} (F15 : Fun K "_lay" "Table._lay" tp15 f15 fd15) (m15 : Meth K (cAd K "Table") "_lay" f15)
    {f16 : Addr} {fd16 : FuncData} (F16 : Fun K "lay" "Table.lay" tp16 f16 fd16) (m16 : Meth K (cAd K "Table") "lay" f16)
    {f17 : Addr} {fd17 : FuncData} (F17 : Fun K "exchange" "Table.exchange" tp17 f17 fd17) (m17 : Meth K (cAd K "Table") "exchange" f17)
    {f18 : Addr} {fd18 : FuncData} (F18 : Fun K "turn" "Table.turn" tp18 f18 fd18) (m18 : Meth K (cAd K "Table") "turn" f18)
    {f19 : Addr} {fd19 : FuncData} (F19 : Fun K "back" "Table.back" tp19 f19 fd19) (m19 : Meth K (cAd K "Table") "back" f19)
    {f20 : Addr} {fd20 : FuncData} (F20 : Fun K "row" "Table.row" tp20 f20 fd20) (m20 : Meth K (cAd K "Table") "row" f20)
    {f21 : Addr} {fd21 : FuncData} (F21 : Fun K "laying" "Table.laying" tp21 f21 fd21) (m21 : Meth K (cAd K "Table") "laying" f21)
    {f22 : Addr} {fd22 : FuncData} (F22 : Fun K "deeds" "Table.deeds" tp22 f22 fd22) (m22 : Meth K (cAd K "Table") "deeds" f22)
    {f500 : Addr} {fd500 : FuncData} (F500 : Fun K "_law_cloth" "_law_cloth" tp500 f500 fd500) (m500 : mg "_law_cloth" = some (.ref f500))
    {f501 : Addr} {fd501 : FuncData} (F501 : Fun K "_law_take" "_law_take" tp501 f501 fd501) (m501 : mg "_law_take" = some (.ref f501))
    {f502 : Addr} {fd502 : FuncData} (F502 : Fun K "_law_same" "_law_same" tp502 f502 fd502) (m502 : mg "_law_same" = some (.ref f502))
    {f503 : Addr} {fd503 : FuncData} (F503 : Fun K "_law_setting" "_law_setting" tp503 f503 fd503) (m503 : mg "_law_setting" = some (.ref f503))
    {f504 : Addr} {fd504 : FuncData} (F504 : Fun K "_law_drawn" "_law_drawn" tp504 f504 fd504) (m504 : mg "_law_drawn" = some (.ref f504))
    {f505 : Addr} {fd505 : FuncData} (F505 : Fun K "_law_is_laying" "_law_is_laying" tp505 f505 fd505) (m505 : mg "_law_is_laying" = some (.ref f505))
    {f506 : Addr} {fd506 : FuncData} (F506 : Fun K "_law_moved" "_law_moved" tp506 f506 fd506) (m506 : mg "_law_moved" = some (.ref f506))
    {f507 : Addr} {fd507 : FuncData} (F507 : Fun K "_law_told" "_law_told" tp507 f507 fd507) (m507 : mg "_law_told" = some (.ref f507))
    {f508 : Addr} {fd508 : FuncData} (F508 : Fun K "_law_deed" "_law_deed" tp508 f508 fd508) (m508 : mg "_law_deed" = some (.ref f508))
    {f509 : Addr} {fd509 : FuncData} (F509 : Fun K "_law_stands" "_law_stands" tp509 f509 fd509) (m509 : mg "_law_stands" = some (.ref f509))
    {f510 : Addr} {fd510 : FuncData} (F510 : Fun K "_law_session" "_law_session" tp510 f510 fd510) (m510 : mg "_law_session" = some (.ref f510))
    {f511 : Addr} {fd511 : FuncData} (F511 : Fun K "_law_hand" "_law_hand" tp511 f511 fd511) (m511 : mg "_law_hand" = some (.ref f511))
    {f512 : Addr} {fd512 : FuncData} (F512 : Fun K "law" "law" tp512 f512 fd512) (m512 : mg "law" = some (.ref f512))
    (mk_Table : Mk K (cAd K "Table") f14) (gl_Table : mg "Table" = some (.ref (cAd K "Table")))
    : ∀ k, Hyp P w K mg base k := by
  have b0 := F0.binds (ps := ["thing"]) fun _ _ _ _ _ _ us hl => match us, hl with | [_], _ => rfl
  have b1 := F1.binds (ps := ["thing", "many"]) fun _ _ _ _ _ _ us hl => match us, hl with | [_, _], _ => rfl
  have b2 := F2.binds (ps := ["thing"]) fun _ _ _ _ _ _ us hl => match us, hl with | [_], _ => rfl
  have b3 := F3.binds (ps := ["setting", "tray"]) fun _ _ _ _ _ _ us hl => match us, hl with | [_, _], _ => rfl
  have b4 := F4.binds (ps := ["setting"]) fun _ _ _ _ _ _ us hl => match us, hl with | [_], _ => rfl
  have b5 := F5.binds (ps := ["part", "many"]) fun _ _ _ _ _ _ us hl => match us, hl with | [_, _], _ => rfl
  have b6 := F6.binds (ps := ["manner", "part"]) fun _ _ _ _ _ _ us hl => match us, hl with | [_, _], _ => rfl
  have b7 := F7.binds (ps := ["manner", "part", "told"]) fun _ _ _ _ _ _ us hl => match us, hl with | [_, _, _], _ => rfl
  have b8 := F8.binds (ps := ["setting", "thing"]) fun _ _ _ _ _ _ us hl => match us, hl with | [_, _], _ => rfl
  have b9 := F9.binds (ps := ["setting", "thing"]) fun _ _ _ _ _ _ us hl => match us, hl with | [_, _], _ => rfl
  have b10 := F10.binds (ps := ["setting"]) fun _ _ _ _ _ _ us hl => match us, hl with | [_], _ => rfl
  have b11 := F11.binds (ps := ["row", "laying"]) fun _ _ _ _ _ _ us hl => match us, hl with | [_, _], _ => rfl
  have b12 := F12.binds (ps := ["one", "other"]) fun _ _ _ _ _ _ us hl => match us, hl with | [_, _], _ => rfl
  have b13 := F13.binds (ps := ["setting", "parts"]) fun _ _ _ _ _ _ us hl => match us, hl with | [_, _], _ => rfl
  have b14 := F14.binds (ps := ["self", "setting", "row"]) fun _ _ _ _ _ _ us hl => match us, hl with | [_, _, _], _ => rfl
  have b15 := F15.binds (ps := ["self", "laying"]) fun _ _ _ _ _ _ us hl => match us, hl with | [_, _], _ => rfl
  have b16 := F16.binds (ps := ["self", "laying"]) fun _ _ _ _ _ _ us hl => match us, hl with | [_, _], _ => rfl
  have b17 := F17.binds (ps := ["self", "one", "other"]) fun _ _ _ _ _ _ us hl => match us, hl with | [_, _, _], _ => rfl
  have b18 := F18.binds (ps := ["self", "tray", "many"]) fun _ _ _ _ _ _ us hl => match us, hl with | [_, _, _], _ => rfl
  have b19 := F19.binds (ps := ["self"]) fun _ _ _ _ _ _ us hl => match us, hl with | [_], _ => rfl
  have b20 := F20.binds (ps := ["self"]) fun _ _ _ _ _ _ us hl => match us, hl with | [_], _ => rfl
  have b21 := F21.binds (ps := ["self"]) fun _ _ _ _ _ _ us hl => match us, hl with | [_], _ => rfl
  have b22 := F22.binds (ps := ["self"]) fun _ _ _ _ _ _ us hl => match us, hl with | [_], _ => rfl
  have b500 := F500.binds (ps := ["script"]) fun _ _ _ _ _ _ us hl => match us, hl with | [_], _ => rfl
  have b501 := F501.binds (ps := ["cloth", "place", "many"]) fun _ _ _ _ _ _ us hl => match us, hl with | [_, _, _], _ => rfl
  have b502 := F502.binds (ps := ["told", "due"]) fun _ _ _ _ _ _ us hl => match us, hl with | [_, _], _ => rfl
  have b503 := F503.binds (ps := ["cloth", "most"]) fun _ _ _ _ _ _ us hl => match us, hl with | [_, _], _ => rfl
  have b504 := F504.binds (ps := ["cloth", "setting"]) fun _ _ _ _ _ _ us hl => match us, hl with | [_, _], _ => rfl
  have b505 := F505.binds (ps := ["setting", "thing"]) fun _ _ _ _ _ _ us hl => match us, hl with | [_, _], _ => rfl
  have b506 := F506.binds (ps := ["setting", "state", "deed"]) fun _ _ _ _ _ _ us hl => match us, hl with | [_, _, _], _ => rfl
  have b507 := F507.binds (ps := ["table", "deed"]) fun _ _ _ _ _ _ us hl => match us, hl with | [_, _], _ => rfl
  have b508 := F508.binds (ps := ["cloth", "setting"]) fun _ _ _ _ _ _ us hl => match us, hl with | [_, _], _ => rfl
  have b509 := F509.binds (ps := ["table", "row", "state"]) fun _ _ _ _ _ _ us hl => match us, hl with | [_, _, _], _ => rfl
  have b510 := F510.binds (ps := ["cloth"]) fun _ _ _ _ _ _ us hl => match us, hl with | [_], _ => rfl
  have b511 := F511.binds (ps := []) fun _ _ _ _ _ _ us hl => match us, hl with | [], _ => rfl
  have b512 := F512.binds (ps := ["script"]) fun _ _ _ _ _ _ us hl => match us, hl with | [_], _ => rfl
  have qmk14_0_2_1 := kb_of (ps := ["self", "setting", "row"]) (ks := ["row", "setting"]) (na := 1) (perm := [0, 2, 1]) F14 (by decide) fun _ _ _ _ _ _ us ws h1 h2 => by
    have h3 : ws.length = 2 := by
      have h4 : 1 + ws.length = 3 := h2
      omega
    match us, ws, h1, h3 with
    | [_], [_, _], _, _ => rfl
  have qqmk14_0_2_1 := kbn_of qmk14_0_2_1 fun us ws h1 h2 => by
    match us, ws, h1, h2 with
    | [_], [_, _], _, _ => rfl
  have qmk17_0_1_2 := kb_of (ps := ["self", "one", "other"]) (ks := ["one", "other"]) (na := 1) (perm := [0, 1, 2]) F17 (by decide) fun _ _ _ _ _ _ us ws h1 h2 => by
    have h3 : ws.length = 2 := by
      have h4 : 1 + ws.length = 3 := h2
      omega
    match us, ws, h1, h3 with
    | [_], [_, _], _, _ => rfl
  have qmk18_0_1_2 := kb_of (ps := ["self", "tray", "many"]) (ks := ["tray", "many"]) (na := 1) (perm := [0, 1, 2]) F18 (by decide) fun _ _ _ _ _ _ us ws h1 h2 => by
    have h3 : ws.length = 2 := by
      have h4 : 1 + ws.length = 3 := h2
      omega
    match us, ws, h1, h3 with
    | [_], [_, _], _, _ => rfl
  have qmk16_0_1 := kb_of (ps := ["self", "laying"]) (ks := ["laying"]) (na := 1) (perm := [0, 1]) F16 (by decide) fun _ _ _ _ _ _ us ws h1 h2 => by
    have h3 : ws.length = 1 := by
      have h4 : 1 + ws.length = 2 := h2
      omega
    match us, ws, h1, h3 with
    | [_], [_], _, _ => rfl
  have mk : ∀ k, FnOk P w K mg base (L2.CX P w) (2 * k) f0 fd0 ["thing"] (SpX K (arOf PD 0) (runX PD WF k 0)) → FnOk P w K mg base (L2.CX P w) (2 * k) f1 fd1 ["thing", "many"] (SpX K (arOf PD 1) (runX PD WF k 1)) → FnOk P w K mg base (L2.CX P w) (2 * k) f2 fd2 ["thing"] (SpX K (arOf PD 2) (runX PD WF k 2)) → FnOk P w K mg base (L2.CX P w) (2 * k) f3 fd3 ["setting", "tray"] (SpX K (arOf PD 3) (runX PD WF k 3)) → FnOk P w K mg base (L2.CX P w) (2 * k) f4 fd4 ["setting"] (SpX K (arOf PD 4) (runX PD WF k 4)) → FnOk P w K mg base (L2.CX P w) (2 * k) f5 fd5 ["part", "many"] (SpX K (arOf PD 5) (runX PD WF k 5)) → FnOk P w K mg base (L2.CX P w) (2 * k) f6 fd6 ["manner", "part"] (SpX K (arOf PD 6) (runX PD WF k 6)) → FnOk P w K mg base (L2.CX P w) (2 * k) f7 fd7 ["manner", "part", "told"] (SpX K (arOf PD 7) (runX PD WF k 7)) → FnOk P w K mg base (L2.CX P w) (2 * k) f8 fd8 ["setting", "thing"] (SpX K (arOf PD 8) (runX PD WF k 8)) → FnOk P w K mg base (L2.CX P w) (2 * k) f9 fd9 ["setting", "thing"] (SpX K (arOf PD 9) (runX PD WF k 9)) → FnOk P w K mg base (L2.CX P w) (2 * k) f10 fd10 ["setting"] (SpX K (arOf PD 10) (runX PD WF k 10)) → FnOk P w K mg base (L2.CX P w) (2 * k) f11 fd11 ["row", "laying"] (SpX K (arOf PD 11) (runX PD WF k 11)) → FnOk P w K mg base (L2.CX P w) (2 * k) f12 fd12 ["one", "other"] (SpX K (arOf PD 12) (runX PD WF k 12)) → FnOk P w K mg base (L2.CX P w) (2 * k) f13 fd13 ["setting", "parts"] (SpX K (arOf PD 13) (runX PD WF k 13)) → FnOk P w K mg base (L2.CX P w) (2 * k) f14 fd14 ["self", "setting", "row"] (SpX K (arOf PD 14) (runX PD WF k 14)) → FnOk P w K mg base (L2.CX P w) (2 * k) f15 fd15 ["self", "laying"] (SpX K (arOf PD 15) (runX PD WF k 15)) → FnOk P w K mg base (L2.CX P w) (2 * k) f16 fd16 ["self", "laying"] (SpX K (arOf PD 16) (runX PD WF k 16)) → FnOk P w K mg base (L2.CX P w) (2 * k) f17 fd17 ["self", "one", "other"] (SpX K (arOf PD 17) (runX PD WF k 17)) → FnOk P w K mg base (L2.CX P w) (2 * k) f18 fd18 ["self", "tray", "many"] (SpX K (arOf PD 18) (runX PD WF k 18)) → FnOk P w K mg base (L2.CX P w) (2 * k) f19 fd19 ["self"] (SpX K (arOf PD 19) (runX PD WF k 19)) → FnOk P w K mg base (L2.CX P w) (2 * k) f20 fd20 ["self"] (SpX K (arOf PD 20) (runX PD WF k 20)) → FnOk P w K mg base (L2.CX P w) (2 * k) f21 fd21 ["self"] (SpX K (arOf PD 21) (runX PD WF k 21)) → FnOk P w K mg base (L2.CX P w) (2 * k) f22 fd22 ["self"] (SpX K (arOf PD 22) (runX PD WF k 22)) → FnOk P w K mg base (L2.CX P w) (2 * k) f500 fd500 ["script"] (SpX K (arOf PD 500) (runX PD WF k 500)) → FnOk P w K mg base (L2.CX P w) (2 * k) f501 fd501 ["cloth", "place", "many"] (SpX K (arOf PD 501) (runX PD WF k 501)) → FnOk P w K mg base (L2.CX P w) (2 * k) f502 fd502 ["told", "due"] (SpX K (arOf PD 502) (runX PD WF k 502)) → FnOk P w K mg base (L2.CX P w) (2 * k) f503 fd503 ["cloth", "most"] (SpX K (arOf PD 503) (runX PD WF k 503)) → FnOk P w K mg base (L2.CX P w) (2 * k) f504 fd504 ["cloth", "setting"] (SpX K (arOf PD 504) (runX PD WF k 504)) → FnOk P w K mg base (L2.CX P w) (2 * k) f505 fd505 ["setting", "thing"] (SpX K (arOf PD 505) (runX PD WF k 505)) → FnOk P w K mg base (L2.CX P w) (2 * k) f506 fd506 ["setting", "state", "deed"] (SpX K (arOf PD 506) (runX PD WF k 506)) → FnOk P w K mg base (L2.CX P w) (2 * k) f507 fd507 ["table", "deed"] (SpX K (arOf PD 507) (runX PD WF k 507)) → FnOk P w K mg base (L2.CX P w) (2 * k) f508 fd508 ["cloth", "setting"] (SpX K (arOf PD 508) (runX PD WF k 508)) → FnOk P w K mg base (L2.CX P w) (2 * k) f509 fd509 ["table", "row", "state"] (SpX K (arOf PD 509) (runX PD WF k 509)) → FnOk P w K mg base (L2.CX P w) (2 * k) f510 fd510 ["cloth"] (SpX K (arOf PD 510) (runX PD WF k 510)) → FnOk P w K mg base (L2.CX P w) (2 * k) f511 fd511 [] (SpX K (arOf PD 511) (runX PD WF k 511)) → FnOk P w K mg base (L2.CX P w) (2 * k) f512 fd512 ["script"] (SpX K (arOf PD 512) (runX PD WF k 512)) → Hyp P w K mg base k := by
    intro k g0 g1 g2 g3 g4 g5 g6 g7 g8 g9 g10 g11 g12 g13 g14 g15 g16 g17 g18 g19 g20 g21 g22 g500 g501 g502 g503 g504 g505 g506 g507 g508 g509 g510 g511 g512
    exact {
      toFx := X
      c0 := ⟨f0, fd0, _, g0, m0, F0.kp, b0⟩
      c1 := ⟨f1, fd1, _, g1, m1, F1.kp, b1⟩
      c2 := ⟨f2, fd2, _, g2, m2, F2.kp, b2⟩
      c3 := ⟨f3, fd3, _, g3, m3, F3.kp, b3⟩
      c4 := ⟨f4, fd4, _, g4, m4, F4.kp, b4⟩
      c5 := ⟨f5, fd5, _, g5, m5, F5.kp, b5⟩
      c6 := ⟨f6, fd6, _, g6, m6, F6.kp, b6⟩
      c7 := ⟨f7, fd7, _, g7, m7, F7.kp, b7⟩
      c8 := ⟨f8, fd8, _, g8, m8, F8.kp, b8⟩
      c9 := ⟨f9, fd9, _, g9, m9, F9.kp, b9⟩
      c10 := ⟨f10, fd10, _, g10, m10, F10.kp, b10⟩
      c11 := ⟨f11, fd11, _, g11, m11, F11.kp, b11⟩
      c12 := ⟨f12, fd12, _, g12, m12, F12.kp, b12⟩
      c13 := ⟨f13, fd13, _, g13, m13, F13.kp, b13⟩
      m14 := ⟨f14, fd14, _, g14, gl_Table, mk_Table, b14⟩
      m15 := ⟨f15, fd15, _, g15, m15, b15⟩
      m16 := ⟨f16, fd16, _, g16, m16, b16⟩
      m17 := ⟨f17, fd17, _, g17, m17, b17⟩
      m18 := ⟨f18, fd18, _, g18, m18, b18⟩
      m19 := ⟨f19, fd19, _, g19, m19, b19⟩
      m20 := ⟨f20, fd20, _, g20, m20, b20⟩
      m21 := ⟨f21, fd21, _, g21, m21, b21⟩
      m22 := ⟨f22, fd22, _, g22, m22, b22⟩
      c500 := ⟨f500, fd500, _, g500, m500, F500.kp, b500⟩
      c501 := ⟨f501, fd501, _, g501, m501, F501.kp, b501⟩
      c502 := ⟨f502, fd502, _, g502, m502, F502.kp, b502⟩
      c503 := ⟨f503, fd503, _, g503, m503, F503.kp, b503⟩
      c504 := ⟨f504, fd504, _, g504, m504, F504.kp, b504⟩
      c505 := ⟨f505, fd505, _, g505, m505, F505.kp, b505⟩
      c506 := ⟨f506, fd506, _, g506, m506, F506.kp, b506⟩
      c507 := ⟨f507, fd507, _, g507, m507, F507.kp, b507⟩
      c508 := ⟨f508, fd508, _, g508, m508, F508.kp, b508⟩
      c509 := ⟨f509, fd509, _, g509, m509, F509.kp, b509⟩
      c510 := ⟨f510, fd510, _, g510, m510, F510.kp, b510⟩
      c511 := ⟨f511, fd511, _, g511, m511, F511.kp, b511⟩
      c512 := ⟨f512, fd512, _, g512, m512, F512.kp, b512⟩
      mk14_0_2_1 := ⟨f14, fd14, _, _, g14, gl_Table, mk_Table, qqmk14_0_2_1⟩
      mk17_0_1_2 := ⟨f17, fd17, _, _, g17, m17, qmk17_0_1_2⟩
      mk18_0_1_2 := ⟨f18, fd18, _, _, g18, m18, qmk18_0_1_2⟩
      mk16_0_1 := ⟨f16, fd16, _, _, g16, m16, qmk16_0_1⟩ }
  intro k
  induction k with
  | zero => exact mk 0 (fn_zero rfl) (fn_zero rfl) (fn_zero rfl) (fn_zero rfl) (fn_zero rfl) (fn_zero rfl) (fn_zero rfl) (fn_zero rfl) (fn_zero rfl) (fn_zero rfl) (fn_zero rfl) (fn_zero rfl) (fn_zero rfl) (fn_zero rfl) (fn_zero rfl) (fn_zero rfl) (fn_zero rfl) (fn_zero rfl) (fn_zero rfl) (fn_zero rfl) (fn_zero rfl) (fn_zero rfl) (fn_zero rfl) (fn_zero rfl) (fn_zero rfl) (fn_zero rfl) (fn_zero rfl) (fn_zero rfl) (fn_zero rfl) (fn_zero rfl) (fn_zero rfl) (fn_zero rfl) (fn_zero rfl) (fn_zero rfl) (fn_zero rfl) (fn_zero rfl)
  | succ k ih => exact mk (k + 1) (w0 ih F0) (w1 ih F1) (w2 ih F2) (w3 ih F3) (w4 ih F4) (w5 ih F5) (w6 ih F6) (w7 ih F7) (w8 ih F8) (w9 ih F9) (w10 ih F10) (w11 ih F11) (w12 ih F12) (w13 ih F13) (w14 ih F14) (w15 ih F15) (w16 ih F16) (w17 ih F17) (w18 ih F18) (w19 ih F19) (w20 ih F20) (w21 ih F21) (w22 ih F22) (w500 ih F500) (w501 ih F501) (w502 ih F502) (w503 ih F503) (w504 ih F504) (w505 ih F505) (w506 ih F506) (w507 ih F507) (w508 ih F508) (w509 ih F509) (w510 ih F510) (w511 ih F511) (w512 ih F512)
end
end K93

/-! K93, mathematics 1: the law's own judge of layings. -/
namespace K93
open PySem Fw Mx PG
def lawOwn (m : Str) (l : List Nat) (a : List Int) : Bool :=
  if m = "any" then decide (sortI a = l.map Int.ofNat) else if m = "ring" then decide (a ∈ ((List.range (max 1 l.length)).map fun i => (l.drop i ++ l.take i).map Int.ofNat)) else decide (a = l.map Int.ofNat) || (!decide (m = "fixed") && decide (a = l.reverse.map Int.ofNat))
theorem lawOwn_eq {m : Str} (hm : m ∈ mans) (l : List Nat) (a : List Int) : lawOwn m l a = isOwn m l a := by
  unfold lawOwn isOwn ownL
  simp only [mans, List.mem_cons, List.not_mem_nil, or_false] at hm
  rcases hm with rfl | rfl | rfl | rfl
  · simp
  · cases l with
    | nil => simp
    | cons x l =>
      have e : ((List.range (max 1 (x :: l).length)).map fun i => ((x :: l).drop i ++ (x :: l).take i).map Int.ofNat) = ((List.range (x :: l).length).map (rotN (x :: l))).map fun r => r.map Int.ofNat := by
        rw [List.map_map]
        have : max 1 (x :: l).length = (x :: l).length := by simp
        rw [this]
        refine List.map_congr_left fun i hi => ?_
        rw [Function.comp, rot_eq (List.mem_range.mp hi)]
      rw [e]
      simp
  · by_cases h : 1 < l.length
    · simp [h]
    · have : l.reverse = l := by
        match l, h with
        | [], _ => rfl
        | [_], _ => rfl
        | _ :: _ :: _, h => simp at h
      simp [h, this]
  · simp
theorem ne_ints (a b : List Int) : evCmp .neD (.lst (a.map .int)) (.lst (b.map .int)) = some (!decide (a = b)) := by
  show (eqDD _ _).map (!·) = _
  rw [eq_ints]; rfl
theorem notin_lists (a : List Int) (ls : List (List Int)) : evCmp .notin (lstI a) (.lst (ls.map lstI)) = some (!decide (a ∈ ls)) := by
  show (inD _ _).map (!·) = _
  rw [in_lists]; rfl
theorem mapN (l : List Nat) : l.map eN = (l.map Int.ofNat).map D.int := by rw [List.map_map]; rfl
/-- places by going through all -/
theorem places_lc (C : Cc) (env : En) (S : Stg) (hS : S.fine) (t i j : Nat) (tt : T) (ee : E) (s : Sto) (hi : ∀ (n : Nat), n < S.n → ∀ env', env' = (wipeD env [i]).set i (some (.int n)) → evT C env' tt s = some (decide (S.tray n = t), s) ∧ evE C env' ee s = some (.int n, s)) :
    srcGo (lcF C env (.name i) tt ee [i]) (.vals ((List.range S.n).map fun (n : Nat) => D.int (n : Int))) s = some ((S.places t).map eN, s) := by
  have e := lc_filter (C := C) (env := env) (g := .name i) (t := tt) (e := ee) (own := [i]) (s := s) (fun (n : Nat) => D.int (n : Int)) (fun n => if S.tray n = t then some (eN n) else none) (List.range S.n) (by rw [List.length_range]; have : S.n ≤ 1000 := hS.pl; omega) fun n hn => by
    obtain ⟨h1, h2⟩ := hi n (List.mem_range.mp hn) _ rfl
    by_cases h : S.tray n = t
    · simp only [h, decide_true] at h1
      simp [lcF, h1, h2, h, eN]
    · simp only [h, decide_false] at h1
      simp [lcF, h1, h]
  rw [e]
  congr 2
  unfold Stg.places
  generalize List.range S.n = l
  induction l with
  | nil => rfl
  | cons x l ih =>
    rw [List.filterMap_cons, List.filter_cons]
    by_cases h : S.tray x = t
    · simp [h, ih]
    · simp [h, ih]
theorem pl_at {S : Stg} {n : Nat} (h : n < S.n) : ∃ x, (S.pl.map eP)[n]? = some (.tup [x, .int (S.tray n : Int)]) := by
  have h' : n < S.pl.length := h
  refine ⟨.str S.pl[n].1, ?_⟩
  unfold Stg.tray
  rw [List.getElem?_map, List.getElem?_eq_getElem h']; rfl
/-- what both judges say of a thing -/
structure LayRes (S : Stg) (d : D) (v : Bool) : Prop where
  prog : ∀ (k b : Nat) (s : Sto), 4 ≤ k → (CC PD WF k b).run true 8 [S.d, d] s = some (.bl v, s)
  law : ∀ (k b : Nat) (s : Sto), 1 ≤ k → (CC PD WF k b).run true 505 [S.d, d] s = some (.bl v, s)
theorem lay_no {S : Stg} (hS : S.fine) {d : D} (hd : Mx.plain d = true) (ht : isTup d = false) : LayRes S d false := by
  refine ⟨fun k b s hk => r8_no ext b s (by omega) S hd ht, fun k b s hk => ?_⟩
  obtain ⟨k, rfl⟩ := Nat.exists_eq_add_of_le' hk
  refine pure_call (by simp [clL, plain_cl d hd]) (s' := []) ?_ rfl b s
  rw [go505]
  cases d with
  | non => simp [b505, isID]
  | bl u => simp [b505]
  | int u => simp [b505]
  | str u => simp [b505]
  | scr u => simp [Mx.plain] at hd
  | obj u => simp [Mx.plain] at hd
  | tup u => simp [isTup] at ht
  | lst u => simp [b505]
theorem lay_len {S : Stg} (hS : S.fine) {ds : List D} (hd : plainL ds = true) (hl : ds.length ≠ S.n) : LayRes S (.tup ds) false := by
  refine ⟨fun k b s hk => r8_len ext b s (by omega) S hd hl, fun k b s hk => ?_⟩
  obtain ⟨k, rfl⟩ := Nat.exists_eq_add_of_le' hk
  refine pure_call (by simp [clL, D.cl, plain_clL ds hd]) (s' := []) ?_ rfl b s
  rw [go505]
  have hl' : ¬ ds.length = S.pl.length := hl
  simp [b505, hl']
theorem bad_lc (k : Nat) (env : En) (h7 : 7 < env.length) {ds : List D} (hd : plainL ds = true) (hl : ds.length ≤ 1000) : srcGo (lcF (CC PD WF k 0) env (.name 7) b505_7 b505_6 [7]) (.vals ds) [] = some ((ds.filter fun d => !isInt d).map fun _ => .int 1, []) := by
  have e := lc_filter (C := CC PD WF k 0) (env := env) (g := .name 7) (t := b505_7) (e := b505_6) (own := [7]) (s := []) id (fun d => if isInt d = true then none else some (.int 1)) ds (by omega) fun d hm => by
    have hp := plain_mem hd d hm
    cases d with
    | non => simp [lcF, wipeD, b505_7, b505_6, isInt, isID, h7]
    | bl u => simp [lcF, wipeD, b505_7, b505_6, isInt, h7]
    | int u => simp [lcF, wipeD, b505_7, b505_6, isInt, h7]
    | str u => simp [lcF, wipeD, b505_7, b505_6, isInt, h7]
    | scr u => simp [Mx.plain] at hp
    | obj u => simp [Mx.plain] at hp
    | tup u => simp [lcF, wipeD, b505_7, b505_6, isInt, h7]
    | lst u => simp [lcF, wipeD, b505_7, b505_6, isInt, h7]
  rw [List.map_id] at e
  rw [e]
  congr 2
  clear e hd hl
  induction ds with
  | nil => rfl
  | cons x l ih =>
    rw [List.filterMap_cons, List.filter_cons]
    cases h : isInt x <;> simp [ih]
theorem lay_bad {S : Stg} (hS : S.fine) {ds : List D} (hd : plainL ds = true) (hl : ds.length = S.n) (hb : ds.all isInt = false) : LayRes S (.tup ds) false := by
  refine ⟨fun k b s hk => r8_bad ext b s (by omega) hS hd hl hb, fun k b s hk => ?_⟩
  obtain ⟨k, rfl⟩ := Nat.exists_eq_add_of_le' hk
  refine pure_call (by simp [clL, D.cl, plain_clL ds hd]) (s' := []) ?_ rfl b s
  rw [go505]
  have hl' : ds.length = S.pl.length := hl
  have e := bad_lc k [some S.d, some (.tup ds), some (.int S.pl.length), none, none, none, none, none, none] (by simp) hd (by have := hS.pl; omega)
  have h0 : 0 < (ds.filter fun d => !isInt d).length := by
    rw [List.all_eq_false] at hb
    obtain ⟨x, hx, h⟩ := hb
    exact List.length_pos_of_mem (List.mem_filter.mpr ⟨hx, by simpa using h⟩)
  obtain ⟨fl, hfl⟩ : ∃ fl : List D, fl = (ds.filter fun d => !isInt d).map fun _ => .int 1 := ⟨_, rfl⟩
  rw [← hfl] at e
  have h1 : 0 < fl.length := by rw [hfl, List.length_map]; exact h0
  have h2 : (0 : Int) < fl.length := by omega
  have h3 : fl ≠ [] := List.length_pos_iff.mp h1
  simp [b505, hl', e, h1, h2, h3]
end K93

/-! K93, mathematics 2: the law's own judge of layings, of whole numbers. -/
namespace K93
open PySem Fw Mx PG
theorem all_congr {α : Type} {p q : α → Bool} : ∀ {l : List α}, (∀ x ∈ l, p x = q x) → l.all p = l.all q
  | [], _ => rfl
  | x :: l, h => by
    rw [List.all_cons, List.all_cons, h x (List.mem_cons_self ..), all_congr fun y hy => h y (List.mem_cons_of_mem _ hy)]
theorem ring_lc (C : Cc) (env : En) (l : List Nat) (hl : l.length ≤ 1000) (s : Sto) (h4 : env[4]? = some (some (.lst (l.map eN)))) (h8 : 8 < env.length) :
    srcGo (lcF C env (.name 8) .yes b505_1 [8]) (.vals ((List.range (max 1 l.length)).map fun (n : Nat) => D.int (n : Int))) s = some (((List.range (max 1 l.length)).map fun i => (l.drop i ++ l.take i).map Int.ofNat).map lstI, s) := by
  have e := lc_map (C := C) (env := env) (g := .name 8) (t := .yes) (e := b505_1) (own := [8]) (s := s) (fun (n : Nat) => D.int (n : Int)) (fun i => .lst ((l.drop i ++ l.take i).map eN)) (List.range (max 1 l.length)) (by rw [List.length_range]; omega) fun i hi => by
    have hi' := List.mem_range.mp hi
    have hi' : i ≤ l.length := by omega
    have h4' : (((wipeD env [8]).set 8 (some (.int i))))[4]? = some (some (.lst (l.map eN))) := by
      simp [wipeD, h4]
    have h8' : (((wipeD env [8]).set 8 (some (.int i))))[8]? = some (some (.int i)) := by
      simp [wipeD, h8]
    have e1 : cutD (l.map eN) (some (i : Int)) none = (l.drop i).map eN := by rw [slc_from _ _ (by simpa using hi'), List.map_drop]
    have e2 : cutD (l.map eN) none (some (i : Int)) = (l.take i).map eN := by rw [slc_to _ _ (by simpa using hi'), List.map_take]
    have e3 := addL ((l.drop i).map eN) ((l.take i).map eN) (by simp; omega)
    rw [← List.map_append] at e3
    simp only [lcF, asgG, Option.bind_some, evT_yes, b505_1, evE_bin, evE_slc, evE_var, evOe_some, evOe_none, h4', h8', slc_lst, Option.map_some, e1, e2, e3]
  rw [e, List.map_map]
  congr 2
  refine List.map_congr_left fun i _ => ?_
  show D.lst _ = D.lst _
  rw [mapN]
theorem own_step (k : Nat) {S : Stg} (hS : S.fine) {a : List Int} (hl : a.length = S.n) {t : Nat} (ht : t < S.tr.length) (hm : S.man t ∈ mans) (x4 x5 x6 x7 x8 : Option D) :
    (lawOwn (S.man t) (S.places t) ((S.places t).map fun i => geti a i) = true ∧ ∃ e2, exSs (CC PD WF k 0) b505_5 [some S.d, some (.tup (a.map .int)), some (.int S.n), some (.int t), x4, x5, x6, x7, x8] [] = some (.nx e2 []) ∧ ∃ x3 x4 x5 x6 x7 x8, e2 = [some S.d, some (.tup (a.map .int)), some (.int S.n), x3, x4, x5, x6, x7, x8]) ∨
    (lawOwn (S.man t) (S.places t) ((S.places t).map fun i => geti a i) = false ∧ exSs (CC PD WF k 0) b505_5 [some S.d, some (.tup (a.map .int)), some (.int S.n), some (.int t), x4, x5, x6, x7, x8] [] = some (.rt (.bl false) [])) := by
  have hn : S.n ≤ 1000 := hS.pl
  have hpn := places_len S t
  have h1 : (S.n : Int) ≤ 1000000 := by omega
  have h2 : -1000000 ≤ (S.n : Int) := by omega
  obtain ⟨row, hrow⟩ : ∃ row, row = (S.places t).map fun i => geti a i := ⟨_, rfl⟩
  obtain ⟨m, hmm⟩ : ∃ m, m = S.man t := ⟨_, rfl⟩
  rw [← hrow, ← hmm]
  have hrl : row.length ≤ 1000 := by rw [hrow, List.length_map]; omega
  have p1 := places_lc (CC PD WF k 0) [some S.d, some (.tup (a.map .int)), some (.int S.n), some (.int t), x4, x5, x6, x7, x8] S hS t 8 0 b505_4 b505_3 [] (by
    intro n hn env' he
    subst he
    obtain ⟨x, hx⟩ := pl_at hn
    exact ⟨by simp [wipeD, b505_4, hx], by simp [wipeD, b505_3]⟩)
  have p2 := lc_map (C := CC PD WF k 0) (env := [some S.d, some (.tup (a.map .int)), some (.int S.n), some (.int t), some (.lst ((S.places t).map eN)), x5, x6, x7, x8]) (g := .name 8) (t := .yes) (e := b505_2) (own := [8]) (s := []) eN (fun i => .int (geti a i)) (S.places t) (by omega) fun i hi => by
    have := geti_some (l := a) (i := i) (by rw [hl]; exact mem_places hi)
    simp [lcF, wipeD, b505_2, eN, this]
  have e0 : ((S.places t).map fun i => D.int (geti a i)) = row.map .int := by rw [hrow, List.map_map]; rfl
  rw [e0] at p2
  obtain ⟨y, hy⟩ : ∃ y, (S.tr.map eT)[t]? = some (.tup [y, .str m]) := by rw [hmm]; exact tr_get ext ht
  have hpl : D.lst ((S.places t).map eN) = lstI ((S.places t).map Int.ofNat) := by rw [mapN]; rfl
  have s1 := sort_ints row (by omega)
  have n1 := ne_ints (sortI row) ((S.places t).map Int.ofNat)
  have n2 := ne_ints row ((S.places t).map Int.ofNat)
  have n3 := ne_ints row ((S.places t).reverse.map Int.ofNat)
  rw [← mapN] at n1 n2 n3
  have rv : (S.places t).reverse.map eN = ((S.places t).map eN).reverse := by rw [List.map_reverse]
  have p3 := ring_lc (CC PD WF k 0) [some S.d, some (.tup (a.map .int)), some (.int S.n), some (.int t), some (.lst ((S.places t).map eN)), some (.lst (row.map .int)), some (.str m), x7, x8] (S.places t) (by omega) [] rfl (by simp)
  have n4 := notin_lists row ((List.range (max 1 (S.places t).length)).map fun i => ((S.places t).drop i ++ (S.places t).take i).map Int.ofNat)
  have mx : (if (1 : Int) < ((S.places t).length : Nat) then (((S.places t).length : Nat) : Int) else 1) = ((max 1 (S.places t).length : Nat) : Int) := by split <;> omega
  have m1 : ((max 1 (S.places t).length : Nat) : Int) ≤ 1000000 := by omega
  have m2 : -1000000 ≤ ((max 1 (S.places t).length : Nat) : Int) := by omega
  have st1 : exS (CC PD WF k 0) (.asg (.name 4) (.lc (.name 8) (.rng1 (.var 2)) b505_4 b505_3 [8])) [some S.d, some (.tup (a.map .int)), some (.int S.n), some (.int t), x4, x5, x6, x7, x8] [] = some (.nx [some S.d, some (.tup (a.map .int)), some (.int S.n), some (.int t), some (.lst ((S.places t).map eN)), x5, x6, x7, x8] []) := by
    simp [h1, h2, rg_nat, p1]
  have st2 : exS (CC PD WF k 0) (.par 5 6 (.lc (.name 8) (.seq (.var 4)) .yes b505_2 [8]) (.idx (.idx (.idx (.var 0) (.int 1)) (.var 3)) (.int 1))) [some S.d, some (.tup (a.map .int)), some (.int S.n), some (.int t), some (.lst ((S.places t).map eN)), x5, x6, x7, x8] [] = some (.nx [some S.d, some (.tup (a.map .int)), some (.int S.n), some (.int t), some (.lst ((S.places t).map eN)), some (.lst (row.map .int)), some (.str m), x7, x8] []) := by
    simp [p2, hy]
  have fin : ∀ (r : Option Rs), exSs (CC PD WF k 0) (.cons (.ife (.val (.cmp .eq (.var 6) (.str "any"))) (.cons (.ife (.val (.cmp .neD (.sort (.var 5)) (.var 4))) (.cons (.ret (.bl false)) (.nil)) (.nil)) (.nil)) (.cons (.ife (.val (.cmp .eq (.var 6) (.str "ring"))) (.cons (.ife (.val (.cmp .notin (.var 5) (.lc (.name 8) (.rng1 (.max2 (.int 1) (.b1 .len (.var 4)))) .yes b505_1 [8]))) (.cons (.ret (.bl false)) (.nil)) (.nil)) (.nil)) (.cons (.ife (.and (.val (.cmp .neD (.var 5) (.var 4))) (.or (.val (.cmp .eq (.var 6) (.str "fixed"))) (.val (.cmp .neD (.var 5) (.rev (.var 4)))))) (.cons (.ret (.bl false)) (.nil)) (.nil)) (.nil))) (.nil))) (.nil))
      [some S.d, some (.tup (a.map .int)), some (.int S.n), some (.int t), some (.lst ((S.places t).map eN)), some (.lst (row.map .int)), some (.str m), x7, x8] [] = r → exSs (CC PD WF k 0) b505_5 [some S.d, some (.tup (a.map .int)), some (.int S.n), some (.int t), x4, x5, x6, x7, x8] [] = r := fun r hr => stA st1 (stA st2 hr)
  have p3' : ∀ z, srcGo (lcF (CC PD WF k 0) [some S.d, some (.tup (a.map .int)), some (.int S.n), some (.int t), some (.lst ((S.places t).map eN)), some (.lst (row.map .int)), some (.str m), x7, x8] (.name 8) .yes b505_1 [8]) (.vals (rgD ((max 1 (S.places t).length : Nat) : Int))) z = some (((List.range (max 1 (S.places t).length)).map fun i => ((S.places t).drop i ++ (S.places t).take i).map Int.ofNat).map lstI, z) := fun z => by
    rw [rg_nat]; exact ring_lc (CC PD WF k 0) _ (S.places t) (by omega) z rfl (by simp)
  have n4' : evCmp .notin (.lst (row.map .int)) (.lst (((List.range (max 1 (S.places t).length)).map fun i => ((S.places t).drop i ++ (S.places t).take i).map Int.ofNat).map lstI)) = _ := n4
  obtain ⟨RL, hRL⟩ : ∃ RL : List (List Int), RL = (List.range (max 1 (S.places t).length)).map fun i => ((S.places t).drop i ++ (S.places t).take i).map Int.ofNat := ⟨_, rfl⟩
  rw [← hRL] at p3' n4'
  obtain ⟨MXL, hMX⟩ : ∃ z : Nat, z = max 1 (S.places t).length := ⟨_, rfl⟩
  rw [← hMX] at p3' mx m1 m2
  have r4 : ∀ z, evE (CC PD WF k 0) [some S.d, some (.tup (a.map .int)), some (.int S.n), some (.int t), some (.lst ((S.places t).map eN)), some (.lst (row.map .int)), some (.str m), x7, x8] (.lc (.name 8) (.rng1 (.max2 (.int 1) (.b1 .len (.var 4)))) .yes b505_1 [8]) z = some (.lst (RL.map lstI), z) := fun z => by
    simp only [evE_lc, own1, if_true, evI_rng1, evE_max2, evE_int, evE_b1, evE_var, List.getElem?_cons_succ, List.getElem?_cons_zero, Option.bind_some, b1_len, len_lst, Option.map_some, List.length_map, mx]
    rw [if_pos ⟨m2, m1⟩]
    simp only [Option.bind_some, p3', Option.map_some]
  unfold lawOwn
  rw [← hRL]
  by_cases c1 : m = "any"
  · subst c1
    by_cases h : sortI row = (S.places t).map Int.ofNat
    · rw [decide_eq_true h] at n1
      refine .inl ⟨by simp [h], [some S.d, some (.tup (a.map .int)), some (.int S.n), some (.int t), some (.lst ((S.places t).map eN)), some (.lst (row.map .int)), some (.str "any"), x7, x8], fin _ (by simp [s1, n1]), _, _, _, _, _, _, rfl⟩
    · rw [decide_eq_false h] at n1
      refine .inr ⟨by simp [h], fin _ (by simp [s1, n1])⟩
  · by_cases c2 : m = "ring"
    · subst c2
      by_cases h : row ∈ RL
      · rw [decide_eq_true h] at n4'
        refine .inl ⟨by simp [h], [some S.d, some (.tup (a.map .int)), some (.int S.n), some (.int t), some (.lst ((S.places t).map eN)), some (.lst (row.map .int)), some (.str "ring"), x7, x8], fin _ (by simp [r4, n4', -evE_lc]), _, _, _, _, _, _, rfl⟩
      · rw [decide_eq_false h] at n4'
        refine .inr ⟨by simp [h], fin _ (by simp [r4, n4', -evE_lc])⟩
    · by_cases h : row = (S.places t).map Int.ofNat
      · rw [decide_eq_true h] at n2
        refine .inl ⟨by simp [h, c1, c2], [some S.d, some (.tup (a.map .int)), some (.int S.n), some (.int t), some (.lst ((S.places t).map eN)), some (.lst (row.map .int)), some (.str m), x7, x8], fin _ (by simp [c1, c2, n2]), _, _, _, _, _, _, rfl⟩
      · rw [decide_eq_false h] at n2
        by_cases c3 : m = "fixed"
        · subst c3
          refine .inr ⟨by simp [h], fin _ (by simp [n2])⟩
        · rw [rv] at n3
          by_cases h3 : row = (S.places t).reverse.map Int.ofNat
          · rw [decide_eq_true h3] at n3
            refine .inl ⟨by rw [if_neg c1, if_neg c2, decide_eq_true h3, decide_eq_false c3]; simp, [some S.d, some (.tup (a.map .int)), some (.int S.n), some (.int t), some (.lst ((S.places t).map eN)), some (.lst (row.map .int)), some (.str m), x7, x8], fin _ (by simp [c1, c2, c3, n2, n3]), _, _, _, _, _, _, rfl⟩
          · rw [decide_eq_false h3] at n3
            refine .inr ⟨by rw [if_neg c1, if_neg c2, decide_eq_false h3, decide_eq_false c3, decide_eq_false h]; simp, fin _ (by simp [c1, c2, c3, n2, n3])⟩
theorem lay_ints {S : Stg} (hS : S.fine) (hT : S.inT) (hm : ∀ t, t < S.tr.length → S.man t ∈ mans) {a : List Int} (hl : a.length = S.n) : LayRes S (.tup (a.map .int)) (S.isLay a) := by
  refine ⟨fun k b s hk => r8 ext b s hk hS hl, fun k b s hk => ?_⟩
  obtain ⟨k, rfl⟩ := Nat.exists_eq_add_of_le' hk
  refine pure_call (by simp [clL, D.cl, plain_clL _ (plain_ints a)]) (s' := []) ?_ rfl b s
  rw [go505]
  have hn : S.n ≤ 1000 := hS.pl
  have ht3 : S.tr.length ≤ 1000 := hS.tr
  have hl' : a.length = S.pl.length := hl
  have e0 := bad_lc k [some S.d, some (.tup (a.map .int)), some (.int S.pl.length), none, none, none, none, none, none] (by simp) (plain_ints a) (by simp; omega)
  have f0 : ((a.map D.int).filter fun d => !isInt d) = [] := by
    rw [List.filter_eq_nil_iff]; intro d hd; obtain ⟨x, _, rfl⟩ := List.mem_map.mp hd; simp [isInt]
  rw [f0] at e0
  have s1 := sort_ints a (by omega)
  have rg : rgD (S.pl.length : Int) = ((List.range S.n).map Int.ofNat).map .int := by rw [rg_nat, List.map_map]; rfl
  have n1 := ne_ints (sortI a) ((List.range S.n).map Int.ofNat)
  have h1 : (S.pl.length : Int) ≤ 1000000 := by have : S.pl.length = S.n := rfl; omega
  have h2 : -1000000 ≤ (S.tr.length : Int) := by omega
  have h3 : (S.tr.length : Int) ≤ 1000000 := by omega
  by_cases hs : sortI a = (List.range S.n).map Int.ofNat
  · rw [decide_eq_true hs] at n1
    have lp := forE_find (C := CC PD WF k 0) (g := .name 3) (bd := b505_5) (fun (t : Nat) => D.int (t : Int)) (fun t => lawOwn (S.man t) (S.places t) ((S.places t).map fun i => geti a i))
      (fun env => ∃ x3 x4 x5 x6 x7 x8, env = [some S.d, some (.tup (a.map .int)), some (.int S.n), x3, x4, x5, x6, x7, x8]) (.bl false) [] (List.range S.tr.length) [some S.d, some (.tup (a.map .int)), some (.int S.n), none, none, none, none, none, none] ⟨_, _, _, _, _, _, rfl⟩ (by
        rintro t ht _ ⟨x3, x4, x5, x6, x7, x8, rfl⟩
        have ht := List.mem_range.mp ht
        exact ⟨_, rfl, own_step k hS hl ht (hm t ht) x4 x5 x6 x7 x8⟩)
    have ea : ((List.range S.tr.length).all fun t => lawOwn (S.man t) (S.places t) ((S.places t).map fun i => geti a i)) = S.isLay a :=
      all_congr fun t ht => lawOwn_eq (hm t (List.mem_range.mp ht)) _ _
    rw [ea] at lp
    rcases lp with ⟨h, env', hlp, _⟩ | ⟨h, hlp⟩
    · change forE _ _ _ _ [some S.d, some (.tup (a.map .int)), some (.int (S.pl.length : Nat)), none, none, none, none, none, none] [] = _ at hlp
      rw [h]; simp [b505, hl', e0, s1, rg, n1, h1, h2, h3, rg_nat, hlp, -List.map_map]
    · change forE _ _ _ _ [some S.d, some (.tup (a.map .int)), some (.int (S.pl.length : Nat)), none, none, none, none, none, none] [] = _ at hlp
      rw [h]; simp [b505, hl', e0, s1, rg, n1, h1, h2, h3, rg_nat, hlp, -List.map_map]
  · rw [decide_eq_false hs] at n1
    have : S.isLay a = false := by
      cases h : S.isLay a with
      | false => rfl
      | true => exact absurd ((sort_of_perm (isLay_perm hT hl h)).trans (sort_range S.n)) hs
    rw [this]
    simp [b505, hl', e0, s1, rg, n1, h1, -List.map_map]
end K93

/-! K93, mathematics 3: layings moved, in plain Lean. -/
namespace K93
open PySem Fw Mx PG
theorem list_getn (l : List Nat) : (List.range l.length).map (fun i => getn l i) = l := by
  apply List.ext_getElem
  · simp
  · intro i h1 h2
    simp [getn_eq h2]
theorem comp_set (last l : List Nat) (i v : Nat) : comp last (l.set i v) = (comp last l).set i (getn last v) := by
  unfold comp; rw [List.map_set]
theorem comp_range {last : List Nat} {n : Nat} (h : last.length = n) : comp last (List.range n) = last := by
  subst h; exact list_getn last
theorem comp_swap {last : List Nat} {n : Nat} (h : last.length = n) (i j : Nat) : comp last (swapN n i j) = (last.set i (getn last j)).set j (getn last i) := by
  unfold swapN
  rw [comp_set, comp_set, comp_range h]
theorem comp_fold (last : List Nat) (l : List (Nat × Nat)) (f : List Nat) : comp last (l.foldl (fun f x => f.set x.1 x.2) f) = (l.map fun x => (x.1, getn last x.2)).foldl (fun f x => f.set x.1 x.2) (comp last f) := by
  induction l generalizing f with
  | nil => rfl
  | cons x l ih => rw [List.foldl_cons, ih, List.map_cons, List.foldl_cons, comp_set]
theorem comp_setAll {last : List Nat} {n : Nat} (h : last.length = n) (ps vs : List Nat) : comp last (setAll (List.range n) ps vs) = setAll last ps (vs.map fun v => getn last v) := by
  unfold setAll
  rw [comp_fold, comp_range h]
  congr 1
  rw [List.zip_map_right]
  refine List.map_congr_left fun x _ => ?_
  rfl
theorem set_same {f : List Nat} {i : Nat} (h : getn f i = i) (hi : i < f.length) : f.set i i = f := by
  have e : f[i] = i := by rw [← getn_eq hi]; exact h
  conv => lhs; rw [show f.set i i = f.set i f[i] by rw [e]]
  exact List.set_getElem_self hi
theorem setAll_same (ps : List Nat) : ∀ f : List Nat, (∀ i ∈ ps, getn f i = i ∧ i < f.length) → setAll f ps ps = f := by
  induction ps with
  | nil => intro f _; rfl
  | cons p ps ih =>
    intro f h
    have h1 := h p (List.mem_cons_self ..)
    show (List.zip (p :: ps) (p :: ps)).foldl _ f = f
    rw [List.zip_cons_cons, List.foldl_cons, set_same h1.1 h1.2]
    exact ih f fun i hi => h i (List.mem_cons_of_mem _ hi)
theorem getn_set_ne {f : List Nat} {i j v : Nat} (h : i ≠ j) : getn (f.set i v) j = getn f j := by
  unfold getn
  rw [List.getD_eq_getElem?_getD, List.getD_eq_getElem?_getD, List.getElem?_set_ne h]
theorem getn_setAll {i : Nat} : ∀ (l : List (Nat × Nat)) (f : List Nat), (∀ x ∈ l, x.1 ≠ i) → getn (l.foldl (fun f x => f.set x.1 x.2) f) i = getn f i
  | [], f, _ => rfl
  | x :: l, f, h => by
    rw [List.foldl_cons, getn_setAll l _ fun y hy => h y (List.mem_cons_of_mem _ hy), getn_set_ne (h x (List.mem_cons_self ..))]
theorem getn_range {n i : Nat} (h : i < n) : getn (List.range n) i = i := by
  rw [getn_eq (by rw [List.length_range]; exact h)]; simp
theorem tray_of {S : Stg} {t i : Nat} (h : i ∈ S.places t) : S.tray i = t := of_decide_eq_true (List.mem_filter.mp h).2
theorem with_take {S : Stg} {t : Nat} (r : List Nat) : ∀ K : Nat, K ≤ S.tr.length → withF S (((List.range S.tr.length).zip (turnP S t r)).take K) (List.range S.n) = if K ≤ t then List.range S.n else setAll (List.range S.n) (S.places t) r
  | 0, _ => by simp [withF]
  | K + 1, hK => by
    have ih := with_take (S := S) (t := t) r K (by omega)
    have hz : K < ((List.range S.tr.length).zip (turnP S t r)).length := by
      rw [List.length_zip, List.length_range]; unfold turnP; rw [List.length_set, List.length_map, List.length_range]; omega
    rw [List.take_succ, List.getElem?_eq_getElem hz]
    unfold withF at ih ⊢
    rw [List.foldl_append, ih]
    simp only [Option.toList_some, List.foldl_cons, List.foldl_nil]
    have e : ((List.range S.tr.length).zip (turnP S t r))[K] = (K, if t = K then r else S.places K) := by
      rw [List.getElem_zip]
      unfold turnP
      rw [List.getElem_set]
      simp
    rw [e]
    simp only
    by_cases c : t = K
    · subst c
      rw [if_pos rfl, if_pos (Nat.le_refl _), if_neg (by omega)]
    · rw [if_neg c]
      by_cases c2 : K ≤ t
      · rw [if_pos c2, if_pos (by omega)]
        exact setAll_same _ _ fun i hi => ⟨getn_range (mem_places hi), by rw [List.length_range]; exact mem_places hi⟩
      · rw [if_neg c2, if_neg (by omega)]
        refine setAll_same _ _ fun i hi => ⟨?_, by rw [setAll_len, List.length_range]; exact mem_places hi⟩
        unfold setAll
        rw [getn_setAll _ _ fun x hx => ?_, getn_range (mem_places hi)]
        intro z
        have h1 := tray_of (List.of_mem_zip (a := x.1) (b := x.2) hx).1
        rw [z, tray_of hi] at h1
        exact c h1.symm
theorem with_turn {S : Stg} {t : Nat} (ht : t < S.tr.length) (r : List Nat) : withP S (turnP S t r) = setAll (List.range S.n) (S.places t) r := by
  have := with_take (S := S) (t := t) r S.tr.length (Nat.le_refl _)
  rw [List.take_of_length_le (by rw [List.length_zip, List.length_range]; omega), if_neg (by omega)] at this
  exact this
/-- where the law takes it from -/
def fromAt (m : Str) (many : Int) (len at_ : Nat) : Nat := if m = "ring" then (((at_ : Int) + many).fmod len).toNat else if many.fmod 2 = 1 then len - 1 - at_ else at_
theorem turn_from {S : Stg} {t : Nat} (m : Int) (hm : S.man t ∈ (["ring", "turn"] : List Str)) : turnL S t m = (List.range (S.places t).length).map fun i => getn (S.places t) (fromAt (S.man t) m (S.places t).length i) := by
  obtain ⟨l, hl⟩ : ∃ l, l = S.places t := ⟨_, rfl⟩
  unfold turnL
  rw [← hl]
  simp only [List.mem_cons, List.not_mem_nil, or_false] at hm
  rcases hm with h | h
  · rw [h]
    unfold ownL fromAt
    by_cases hn : l = []
    · subst hn; simp
    · rw [if_pos ⟨rfl, hn⟩]
      have h0 : 0 < l.length := List.length_pos_iff.mpr hn
      rw [List.length_map, List.length_range]
      obtain ⟨r, hr, hr2⟩ := fm_nat m h0
      rw [hr, Int.toNat_natCast, List.getD_eq_getElem?_getD, List.getElem?_map, List.getElem?_range hr2]
      simp only [Option.map_some, Option.getD_some, rotN, if_true]
      refine List.map_congr_left fun i _ => ?_
      congr 1
      have e1 : ((i : Int) + m).fmod l.length = ((i + r : Nat) : Int).fmod l.length := by
        rw [Int.fmod_eq_emod_of_nonneg _ (by omega), Int.fmod_eq_emod_of_nonneg _ (by omega), Int.natCast_add, ← hr, Int.fmod_eq_emod_of_nonneg _ (by omega)]
        simp
      rw [e1, fm_of_nat, Int.toNat_natCast]
  · rw [h]
    unfold ownL fromAt
    have n1 : ¬ (("turn" : Str) = "ring" ∧ l ≠ []) := by simp
    rw [if_neg n1]
    simp only [true_and]
    have n2 : ¬ (("turn" : Str) = "ring") := by simp
    simp only [n2, if_false]
    have hp := Int.fmod_nonneg_of_pos m (show (0 : Int) < 2 by omega)
    have hq := Int.fmod_lt_of_pos m (show (0 : Int) < 2 by omega)
    by_cases h1 : 1 < l.length
    · rw [if_pos h1]
      by_cases h2 : m.fmod 2 = 1
      · simp only [h2, if_true, List.length_cons, List.length_nil]
        have : (m.fmod ((0 + 1 + 1 : Nat) : Int)).toNat = 1 := by
          have : m.fmod ((0 + 1 + 1 : Nat) : Int) = 1 := h2
          rw [this]; rfl
        rw [this]
        show l.reverse = _
        apply List.ext_getElem
        · simp
        · intro i h3 h4
          have hi : i < l.length := by simpa using h3
          rw [List.getElem_reverse]
          simp only [List.getElem_map, List.getElem_range]
          rw [getn_eq (by omega)]
      · simp only [h2, if_false, List.length_cons, List.length_nil]
        have : (m.fmod ((0 + 1 + 1 : Nat) : Int)).toNat = 0 := by
          have h3 : m.fmod 2 = 0 := by omega
          have : m.fmod ((0 + 1 + 1 : Nat) : Int) = 0 := h3
          rw [this]; rfl
        rw [this]
        exact (list_getn l).symm
    · rw [if_neg h1]
      simp only [List.length_cons, List.length_nil]
      have : m.fmod ((0 + 1 : Nat) : Int) = 0 := by
        show m.fmod 1 = 0
        exact Int.fmod_one m
      rw [this]
      show l = _
      apply List.ext_getElem
      · simp
      · intro i h3 h4
        simp only [List.getElem_map, List.getElem_range]
        have : (if m.fmod 2 = 1 then l.length - 1 - i else i) = i := by split <;> omega
        rw [this, getn_eq h3]
theorem comp_turn {S : Stg} {t : Nat} (ht : t < S.tr.length) (m : Int) (hm : S.man t ∈ (["ring", "turn"] : List Str)) {last : List Nat} (h : last.length = S.n) :
    comp last (withP S (turnP S t (turnL S t m))) = setAll last (S.places t) ((List.range (S.places t).length).map fun i => getn last (getn (S.places t) (fromAt (S.man t) m (S.places t).length i))) := by
  rw [with_turn ht, comp_setAll h, turn_from m hm, List.map_map]; rfl
end K93

/-! K93, mathematics 4: what the law says a deed does. -/
namespace K93
open PySem Fw Mx PG
def dLay (d : D) : D := .tup [.str "lay", d]
def dEx (i j : Nat) : D := .tup [.str "exchange", .int i, .int j]
def dTurn (t : Nat) (m : Int) : D := .tup [.str "turn", .int t, .int m]
def dBack : D := .tup [.str "back"]
section
variable {k : Nat} {s : Sto} {S : Stg} {q : Nat} {sl : List (List Nat)}
theorem obj_last (h : getO s q = some (.lst (sl.map eM))) (hne : sl ≠ []) : atD s (.obj q) (.int (-1)) = some (eM (lastL sl)) := by
  rw [atD_obj h, atL_m1, List.length_map]; exact last_get hne
theorem mv_lay_no (hk : 2 ≤ k) (hq : getO s q = some (.lst (sl.map eM))) (hne : sl ≠ []) {d : D} (h : LayRes S d false) : run PD WF k 506 [S.d, .obj q, dLay d] s = some (.tup [.str "row", .int (-1)], s) := by
  obtain ⟨k, rfl⟩ := Nat.exists_eq_add_of_le' (show 1 ≤ k by omega)
  rw [go506]
  have e1 := obj_last hq hne
  have e2 := fun b s => h.law k b s (by omega)
  simp [b506, Es.of, Gs.of, dLay, e1, e2]
theorem mv_lay (hk : 2 ≤ k) (hq : getO s q = some (.lst (sl.map eM))) (hne : sl ≠ []) {c : List Nat} (hc : c.length ≤ 1000) (h : LayRes S (eM c) true) (hi : ∀ i ∈ c, i < (lastL sl).length) : run PD WF k 506 [S.d, .obj q, dLay (eM c)] s = some (eM (comp (lastL sl) c), s) := by
  obtain ⟨k, rfl⟩ := Nat.exists_eq_add_of_le' (show 1 ≤ k by omega)
  rw [go506]
  have e1 := obj_last hq hne
  have e2 := fun b s => h.law k b s (by omega)
  have e := lc_map (C := CC PD WF k s.length) (env := [some S.d, some (.obj q), some (dLay (eM c)), some (eM (lastL sl)), some (.str "lay"), none, none, none, none, none, none, none, none, none, none, none]) (g := .name 15) (t := .yes) (e := b506_4) (own := [15]) (s := s) eN (fun i => eN (getn (lastL sl) i)) c (by omega) fun i hi' => by
    have : ∀ s, atD s (eM (lastL sl)) (eN i) = some (eN (getn (lastL sl) i)) := fun s => by show L2.atI ((lastL sl).map eN) _ = _; rw [atI_ofNat, List.getElem?_map, getn_some (hi i hi')]; rfl
    simp [lcF, wipeD, b506_4, this]
  have e3 : ∀ s, seqSrc s (eM c) = some (.vals (c.map eN)) := fun s => rfl
  have e4 : eM (comp (lastL sl) c) = .tup (c.map fun i => eN (getn (lastL sl) i)) := by simp only [eM, comp, List.map_map]; rfl
  rw [e4]
  have d0 : ∀ s, atD s (dLay (eM c)) (.int 0) = some (.str "lay") := fun s => rfl
  have d1 : ∀ s, atD s (dLay (eM c)) (.int 1) = some (eM c) := fun s => rfl
  simp [b506, Es.of, Gs.of, d0, d1, e1, e2, e3, e]
theorem mv_back_no (hk : 1 ≤ k) (hq : getO s q = some (.lst (sl.map eM))) (h1 : sl.length = 1) : run PD WF k 506 [S.d, .obj q, dBack] s = some (.tup [.str "none", .str "deed", .str ""], s) := by
  obtain ⟨k, rfl⟩ := Nat.exists_eq_add_of_le' (show 1 ≤ k by omega)
  rw [go506]
  have e1 := obj_last hq (by intro z; rw [z] at h1; cases h1)
  simp [b506, Es.of, Gs.of, dBack, e1, len_obj hq, h1]
theorem mv_back (hk : 1 ≤ k) (hq : getO s q = some (.lst (sl.map eM))) (hne : sl ≠ []) (h1 : sl.length ≠ 1) : run PD WF k 506 [S.d, .obj q, dBack] s = some (.non, s) := by
  obtain ⟨k, rfl⟩ := Nat.exists_eq_add_of_le' (show 1 ≤ k by omega)
  rw [go506]
  have e1 := obj_last hq hne
  have h1' : ¬ ((sl.length : Int) = 1) := by omega
  simp [b506, Es.of, Gs.of, dBack, e1, len_obj hq, h1']
theorem mv_ex_tray (hk : 1 ≤ k) (hq : getO s q = some (.lst (sl.map eM))) (hne : sl ≠ []) {i j : Nat} (hi : i < S.n) (hj : j < S.n) (h : S.tray i ≠ S.tray j) : run PD WF k 506 [S.d, .obj q, dEx i j] s = some (.tup [.str "step", .str "tray"], s) := by
  obtain ⟨k, rfl⟩ := Nat.exists_eq_add_of_le' (show 1 ≤ k by omega)
  rw [go506]
  have e1 := obj_last hq hne
  obtain ⟨x, hx⟩ := pl_at hi
  obtain ⟨y, hy⟩ := pl_at hj
  have c1 : cutD [D.str "exchange", D.int (i : Int), D.int (j : Int)] (some 1) none = [.int i, .int j] := rfl
  simp [b506, Es.of, Gs.of, dEx, e1, c1, hx, hy, h]
theorem mv_ex_man (hk : 1 ≤ k) (hq : getO s q = some (.lst (sl.map eM))) (hne : sl ≠ []) {i j : Nat} (hi : i < S.n) (hj : j < S.n) (h : S.tray i = S.tray j) (ht : S.tray i < S.tr.length) (hm : S.man (S.tray i) ≠ "any") : run PD WF k 506 [S.d, .obj q, dEx i j] s = some (.tup [.str "step", .str "manner"], s) := by
  obtain ⟨k, rfl⟩ := Nat.exists_eq_add_of_le' (show 1 ≤ k by omega)
  rw [go506]
  have e1 := obj_last hq hne
  obtain ⟨x, hx⟩ := pl_at hi
  obtain ⟨y, hy⟩ := pl_at hj
  obtain ⟨z, hz⟩ := tr_get ext ht
  rw [← h] at hy
  have c1 : cutD [D.str "exchange", D.int (i : Int), D.int (j : Int)] (some 1) none = [.int i, .int j] := rfl
  simp [b506, Es.of, Gs.of, dEx, e1, c1, hx, hy, hz, hm]
theorem mv_ex (hk : 1 ≤ k) (hq : getO s q = some (.lst (sl.map eM))) (hne : sl ≠ []) {i j : Nat} (hi : i < S.n) (hj : j < S.n) (h : S.tray i = S.tray j) (ht : S.tray i < S.tr.length) (hm : S.man (S.tray i) = "any") (hlen : (lastL sl).length = S.n) :
    ∃ o, run PD WF k 506 [S.d, .obj q, dEx i j] s = some (eM (((lastL sl).set i (getn (lastL sl) j)).set j (getn (lastL sl) i)), s ++ [o]) := by
  obtain ⟨k, rfl⟩ := Nat.exists_eq_add_of_le' (show 1 ≤ k by omega)
  refine ⟨some (.lst ((((lastL sl).set i (getn (lastL sl) j)).set j (getn (lastL sl) i)).map eN)), ?_⟩
  rw [go506]
  have e1 := obj_last hq hne
  obtain ⟨x, hx⟩ := pl_at hi
  obtain ⟨y, hy⟩ := pl_at hj
  obtain ⟨z, hz⟩ := tr_get ext ht
  rw [← h] at hy
  have c1 : cutD [D.str "exchange", D.int (i : Int), D.int (j : Int)] (some 1) none = [.int i, .int j] := rfl
  have l1 : ∀ s l, listD s (eM l) = some (l.map eN) := fun s l => rfl
  have g1 : ∀ s, atD s (eM (lastL sl)) (.int i) = some (eN (getn (lastL sl) i)) := fun s => by show L2.atI ((lastL sl).map eN) _ = _; rw [atI_ofNat, List.getElem?_map, getn_some (by omega)]; rfl
  have g2 : ∀ s, atD s (eM (lastL sl)) (.int j) = some (eN (getn (lastL sl) j)) := fun s => by show L2.atI ((lastL sl).map eN) _ = _; rw [atI_ofNat, List.getElem?_map, getn_some (by omega)]; rfl
  have x1 : L2.ixN (lastL sl).length (i : Int) = some i := ixN_nat (by omega)
  have x2 : L2.ixN (lastL sl).length (j : Int) = some j := ixN_nat (by omega)
  have l2 : ∀ t, listD (s ++ [some (.lst t)]) (.obj s.length) = some t := fun t => list_obj (by simp)
  show _ = some (D.tup ((((lastL sl).set i (getn (lastL sl) j)).set j (getn (lastL sl) i)).map eN), _)
  simp [b506, Es.of, Gs.of, dEx, e1, c1, hx, hy, hz, hm, l1, g1, g2, setiF, x1, x2, l2]
theorem mv_turn_no (hk : 1 ≤ k) (hS : S.fine) (hq : getO s q = some (.lst (sl.map eM))) (hne : sl ≠ []) {t : Nat} (ht : t < S.tr.length) (m : Int) (hlen : (lastL sl).length = S.n) (hm : S.man t ∉ (["ring", "turn"] : List Str)) : run PD WF k 506 [S.d, .obj q, dTurn t m] s = some (.tup [.str "step", .str "manner"], s) := by
  obtain ⟨k, rfl⟩ := Nat.exists_eq_add_of_le' (show 1 ≤ k by omega)
  rw [go506]
  have e1 := obj_last hq hne
  obtain ⟨z, hz⟩ := tr_get ext ht
  have hn : S.n ≤ 1000 := hS.pl
  have p1 := fun s => places_lc (CC PD WF k s.length) [some S.d, some (.obj q), some (dTurn t m), some (eM (lastL sl)), some (.str "turn"), none, none, none, some (.int t), some (.int m), none, none, none, none, none, none] S hS t 12 0 b506_3 b506_2 s (by
    intro n hn env' he
    subst he
    obtain ⟨x, hx⟩ := pl_at hn
    exact ⟨by simp [wipeD, b506_3, hx], by simp [wipeD, b506_2]⟩)
  have h1 : (S.n : Int) ≤ 1000000 := by omega
  have h2 : -1000000 ≤ (S.n : Int) := by omega
  have c1 : slcD (dTurn t m) (some 1) none = some (.tup [.int t, .int m]) := rfl
  have d0 : ∀ s, atD s (dTurn t m) (.int 0) = some (.str "turn") := fun s => rfl
  have l0 : ∀ s, lenD s (eM (lastL sl)) = some S.n := fun s => by rw [← hlen]; simp [eM]
  have e3 := in_strs (S.man t) ["ring", "turn"]
  have e4 : evCmp .notin (.str (S.man t)) (.tup [.str "ring", .str "turn"]) = some true := by
    show (inD (.str (S.man t)) (.tup ((["ring", "turn"] : List Str).map .str))).map (!·) = _
    rw [e3]; simp [hm]
  simp [b506, Es.of, Gs.of, d0, e1, c1, l0, rg_nat, h1, h2, p1, hz, e4]
end
end K93

/-! K93, mathematics 5: a turn; what a table tells. -/
namespace K93
open PySem Fw Mx PG
section
variable {k : Nat} {s : Sto} {S : Stg} {q : Nat} {sl : List (List Nat)}
theorem fold_append (f : List Nat) (l : List (Nat × Nat)) (x : Nat × Nat) : (l ++ [x]).foldl (fun f x => f.set x.1 x.2) f = (l.foldl (fun f x => f.set x.1 x.2) f).set x.1 x.2 := by rw [List.foldl_append]; rfl
/-- the law's own turn -/
theorem turn_for (k : Nat) {m : Str} (many : Int) (hm : m ∈ (["ring", "turn"] : List Str)) (last ps : List Nat) (hp : ∀ i ∈ ps, i < last.length) (x0 x1 x2 x4 x5 x6 x8 : Option D) (s : Sto) :
    ∃ x12 x13 x14 x15, forE (CC PD WF k s.length) (.name 12) b506_1 ((List.range ps.length).map fun (n : Nat) => D.int (n : Int)) [x0, x1, x2, some (eM last), x4, x5, x6, some (.obj s.length), x8, some (.int many), some (.str m), some (.lst (ps.map eN)), none, none, none, none] (s ++ [some (.lst (last.map eN))]) =
      some (.nx [x0, x1, x2, some (eM last), x4, x5, x6, some (.obj s.length), x8, some (.int many), some (.str m), some (.lst (ps.map eN)), x12, x13, x14, x15] (s ++ [some (.lst ((setAll last ps ((List.range ps.length).map fun i => getn last (getn ps (fromAt m many ps.length i)))).map eN))])) := by
  let g : Nat → Nat × Nat := fun i => (getn ps i, getn last (getn ps (fromAt m many ps.length i)))
  have e0 : (ps.zip ((List.range ps.length).map fun i => getn last (getn ps (fromAt m many ps.length i)))) = (List.range ps.length).map g := by
    conv => lhs; rw [← list_getn ps]
    simp only [List.length_map, List.length_range]
    rw [List.zip_map']
    refine List.map_congr_left fun i hi => ?_
    simp only [g, list_getn]
  obtain ⟨env', s', h1, x12, x13, x14, x15, rfl, rfl⟩ := forE_inv (C := CC PD WF k s.length) (g := .name 12) (b := b506_1) (env := [x0, x1, x2, some (eM last), x4, x5, x6, some (.obj s.length), x8, some (.int many), some (.str m), some (.lst (ps.map eN)), none, none, none, none]) (s := s ++ [some (.lst (last.map eN))]) (fun (n : Nat) => D.int (n : Int))
    (fun p env s' => ∃ x12 x13 x14 x15, env = [x0, x1, x2, some (eM last), x4, x5, x6, some (.obj s.length), x8, some (.int many), some (.str m), some (.lst (ps.map eN)), x12, x13, x14, x15] ∧ s' = s ++ [some (.lst ((((p.map g)).foldl (fun f x => f.set x.1 x.2) last).map eN))]) (List.range ps.length) ⟨none, none, none, none, rfl, rfl⟩ (by
      rintro p y r _ _ hl ⟨x12, x13, x14, x15, rfl, rfl⟩
      obtain ⟨rfl, hy⟩ := range_at hl
      obtain ⟨i, hi⟩ : ∃ i, i = p.length := ⟨_, rfl⟩
      rw [← hi] at hy ⊢
      obtain ⟨fa, hfa⟩ : ∃ fa, fa = fromAt m many ps.length i := ⟨_, rfl⟩
      have hf1 : fa < ps.length := by
        rw [hfa]
        unfold fromAt
        split
        · have h1 := Int.fmod_nonneg_of_pos ((i : Int) + many) (show (0 : Int) < ps.length by omega)
          have h2 := Int.fmod_lt_of_pos ((i : Int) + many) (show (0 : Int) < ps.length by omega)
          omega
        · split <;> omega
      have hpi : getn ps i < last.length := by rw [getn_eq hy]; exact hp _ (List.getElem_mem hy)
      have hpf : getn ps fa < last.length := by rw [getn_eq hf1]; exact hp _ (List.getElem_mem hf1)
      have a1 : ∀ s, atD s (.lst (ps.map eN)) (.int i) = some (.int (getn ps i)) := fun s => by show L2.atI (ps.map eN) _ = _; rw [atI_ofNat, List.getElem?_map, getn_some hy]; rfl
      have a2 : ∀ s, atD s (.lst (ps.map eN)) (.int fa) = some (.int (getn ps fa)) := fun s => by show L2.atI (ps.map eN) _ = _; rw [atI_ofNat, List.getElem?_map, getn_some hf1]; rfl
      have a3 : ∀ s, atD s (eM last) (.int (getn ps fa : Nat)) = some (eN (getn last (getn ps fa))) := fun s => by show L2.atI (last.map eN) _ = _; rw [atI_ofNat, List.getElem?_map, getn_some hpf]; rfl
      have a4 : L2.ixN (((p.map g)).foldl (fun f x => f.set x.1 x.2) last).length ((getn ps i : Nat) : Int) = some (getn ps i) := ixN_nat (by rw [fold_len]; exact hpi)
      have m2 := modI many 2 (by decide)
      have m3 := modI ((i : Int) + many) ps.length (by omega)
      -- where from
      have ef : ∃ z13 z14, z14 = (fa : Int) ∧ (if m = "ring" then ((i : Int) + many).fmod ps.length else z13) = z14 ∧ z13 = (if many.fmod 2 = 1 then (ps.length : Int) - 1 - i else i) := by
        refine ⟨_, _, rfl, ?_, rfl⟩
        rw [hfa]; unfold fromAt
        by_cases c : m = "ring"
        · rw [if_pos c, if_pos c]
          have h1 := Int.fmod_nonneg_of_pos ((i : Int) + many) (show (0 : Int) < ps.length by omega)
          omega
        · rw [if_neg c, if_neg c]
          split <;> omega
      obtain ⟨z13, z14, hz14, hz, hz13⟩ := ef
      refine ⟨_, [x0, x1, x2, some (eM last), x4, x5, x6, some (.obj s.length), x8, some (.int many), some (.str m), some (.lst (ps.map eN)), some (.int i), some (.int z13), some (.int z14), x15], s ++ [some (.lst ((((p ++ [i]).map g).foldl (fun f x => f.set x.1 x.2) last).map eN))], rfl, ?_, _, _, _, _, rfl, rfl⟩
      rw [List.map_append, List.map_cons, List.map_nil, fold_append]
      have hg : g i = (getn ps i, getn last (getn ps fa)) := by simp only [g, hfa]
      rw [hg]
      simp only
      generalize hF : ((p.map g)).foldl (fun f x => f.set x.1 x.2) last = F at a4 ⊢
      refine stA (e1 := [x0, x1, x2, some (eM last), x4, x5, x6, some (.obj s.length), x8, some (.int many), some (.str m), some (.lst (ps.map eN)), some (.int i), some (.int z13), x14, x15]) (s1 := s ++ [some (.lst (F.map eN))]) ?_ ?_
      · by_cases c : many.fmod 2 = 1
        · rw [hz13, if_pos c]; simp [m2, c]
        · rw [hz13, if_neg c]; simp [m2, c]
      refine stA (e1 := [x0, x1, x2, some (eM last), x4, x5, x6, some (.obj s.length), x8, some (.int many), some (.str m), some (.lst (ps.map eN)), some (.int i), some (.int z13), some (.int z14), x15]) (s1 := s ++ [some (.lst (F.map eN))]) ?_ ?_
      · by_cases c : m = "ring"
        · rw [if_pos c] at hz
          rw [← hz]; simp [c, m3]
        · rw [if_neg c] at hz
          rw [← hz]; simp [c]
      · rw [hz14]
        simp [a1, a2, a3, a4, eN])
  refine ⟨x12, x13, x14, x15, ?_⟩
  unfold setAll
  rw [e0, h1]
theorem mv_turn (hk : 1 ≤ k) (hS : S.fine) (hq : getO s q = some (.lst (sl.map eM))) (hne : sl ≠ []) {t : Nat} (ht : t < S.tr.length) (m : Int) (hlen : (lastL sl).length = S.n) (hm : S.man t ∈ (["ring", "turn"] : List Str)) :
    ∃ o, run PD WF k 506 [S.d, .obj q, dTurn t m] s = some (eM (setAll (lastL sl) (S.places t) ((List.range (S.places t).length).map fun i => getn (lastL sl) (getn (S.places t) (fromAt (S.man t) m (S.places t).length i)))), s ++ [o]) := by
  obtain ⟨k, rfl⟩ := Nat.exists_eq_add_of_le' (show 1 ≤ k by omega)
  refine ⟨some (.lst ((setAll (lastL sl) (S.places t) ((List.range (S.places t).length).map fun i => getn (lastL sl) (getn (S.places t) (fromAt (S.man t) m (S.places t).length i)))).map eN)), ?_⟩
  rw [go506]
  have e1 := obj_last hq hne
  obtain ⟨z, hz⟩ := tr_get ext ht
  have hn : S.n ≤ 1000 := hS.pl
  have p1 := places_lc (CC PD WF k s.length) [some S.d, some (.obj q), some (dTurn t m), some (eM (lastL sl)), some (.str "turn"), none, none, none, some (.int t), some (.int m), none, none, none, none, none, none] S hS t 12 0 b506_3 b506_2 s (by
    intro n hn env' he
    subst he
    obtain ⟨x, hx⟩ := pl_at hn
    exact ⟨by simp [wipeD, b506_3, hx], by simp [wipeD, b506_2]⟩)
  have h1 : (S.n : Int) ≤ 1000000 := by omega
  have h2 : -1000000 ≤ (S.n : Int) := by omega
  have c1 : slcD (dTurn t m) (some 1) none = some (.tup [.int t, .int m]) := rfl
  have d0 : ∀ s, atD s (dTurn t m) (.int 0) = some (.str "turn") := fun s => rfl
  have l0 : ∀ s, lenD s (eM (lastL sl)) = some S.n := fun s => by rw [← hlen]; simp [eM]
  have l1 : ∀ s l, listD s (eM l) = some (l.map eN) := fun s l => rfl
  have e3 := in_strs (S.man t) ["ring", "turn"]
  have e4 : evCmp .notin (.str (S.man t)) (.tup [.str "ring", .str "turn"]) = some false := by
    show (inD (.str (S.man t)) (.tup ((["ring", "turn"] : List Str).map .str))).map (!·) = _
    rw [e3]; simp [hm]
  have hpn := places_len S t
  have h3 : ((S.places t).length : Int) ≤ 1000000 := by omega
  have h4 : -1000000 ≤ ((S.places t).length : Int) := by omega
  obtain ⟨x12, x13, x14, x15, f1⟩ := turn_for k m hm (lastL sl) (S.places t) (fun i hi => by rw [hlen]; exact mem_places hi) (some S.d) (some (.obj q)) (some (dTurn t m)) (some (.str "turn")) none none (some (.int t)) s
  generalize hF : setAll (lastL sl) (S.places t) ((List.range (S.places t).length).map fun i => getn (lastL sl) (getn (S.places t) (fromAt (S.man t) m (S.places t).length i))) = F at f1 ⊢
  have l2 : ∀ t, listD (s ++ [some (.lst t)]) (.obj s.length) = some t := fun t => list_obj (by simp)
  show _ = some (D.tup (F.map eN), _)
  simp [b506, Es.of, Gs.of, d0, e1, c1, l0, l1, rg_nat, h1, h2, h3, h4, p1, hz, e4, f1, l2]
end
end K93

/-! K93, mathematics 6: what a table tells of a deed; deed by deed the same as the law's own state. -/
namespace K93
open PySem Fw Mx PG
theorem sub_RR : PD.sub "BadRow" "BadRow" = some true := by decide +kernel
theorem sub_SR : PD.sub "BadStep" "BadRow" = some false := by decide +kernel
theorem sub_SS : PD.sub "BadStep" "BadStep" = some true := by decide +kernel
theorem sub_NR : PD.sub "NoSuch" "BadRow" = some false := by decide +kernel
theorem sub_NS : PD.sub "NoSuch" "BadStep" = some false := by decide +kernel
theorem sub_NN : PD.sub "NoSuch" "NoSuch" = some true := by decide +kernel
def tTold : D := .tup [.str "told", .non]
def tRow : D := .tup [.str "row", .int (-1)]
def tStep (w : Str) : D := .tup [.str "step", .str w]
def tNone : D := .tup [.str "none", .str "deed", .str ""]
section
variable {k : Nat} {s s' : Sto} {S : Stg} {row : List Nat} {sl : List (List Nat)} {a l : Nat}
theorem tl_lay (T : Tab s a l S row sl) {d : D} (h : runX PD WF k 16 [.obj a, d] s = some (.ok .non, s')) : run PD WF (k + 1) 507 [.obj a, dLay d] s = some (tTold, s') := by
  rw [go507]
  simp [b507, dLay, Es.of, Xs.of, HEs.of, T.ins, h, tTold]
theorem tl_lay_no (T : Tab s a l S row sl) {d : D} (h : runX PD WF k 16 [.obj a, d] s = some (.ex "BadRow" [("at", .int (-1))], s)) : run PD WF (k + 1) 507 [.obj a, dLay d] s = some (tRow, s) := by
  rw [go507]
  simp [b507, dLay, Es.of, Xs.of, HEs.of, T.ins, h, tRow, handle, sub_RR, slotOk, xfOf, List.lookup]
theorem tl_ex (T : Tab s a l S row sl) {i j : Nat} (h : runX PD WF k 17 [.obj a, .int i, .int j] s = some (.ok .non, s')) : run PD WF (k + 1) 507 [.obj a, dEx i j] s = some (tTold, s') := by
  rw [go507]
  simp [b507, dEx, Es.of, Xs.of, HEs.of, T.ins, h, tTold]
theorem tl_ex_no (T : Tab s a l S row sl) {i j : Nat} {w : Str} (h : runX PD WF k 17 [.obj a, .int i, .int j] s = some (.ex "BadStep" [("word", .str w)], s)) : run PD WF (k + 1) 507 [.obj a, dEx i j] s = some (tStep w, s) := by
  rw [go507]
  simp [b507, dEx, Es.of, Xs.of, HEs.of, T.ins, h, tStep, handle, sub_SR, sub_SS, slotOk, xfOf, List.lookup]
theorem tl_turn (T : Tab s a l S row sl) {t : Nat} {m : Int} (h : runX PD WF k 18 [.obj a, .int t, .int m] s = some (.ok .non, s')) : run PD WF (k + 1) 507 [.obj a, dTurn t m] s = some (tTold, s') := by
  rw [go507]
  simp [b507, dTurn, Es.of, Xs.of, HEs.of, T.ins, h, tTold]
theorem tl_turn_no (T : Tab s a l S row sl) {t : Nat} {m : Int} {w : Str} (h : runX PD WF k 18 [.obj a, .int t, .int m] s = some (.ex "BadStep" [("word", .str w)], s)) : run PD WF (k + 1) 507 [.obj a, dTurn t m] s = some (tStep w, s) := by
  rw [go507]
  simp [b507, dTurn, Es.of, Xs.of, HEs.of, T.ins, h, tStep, handle, sub_SR, sub_SS, slotOk, xfOf, List.lookup]
theorem tl_back (T : Tab s a l S row sl) (h : runX PD WF k 19 [.obj a] s = some (.ok .non, s')) : run PD WF (k + 1) 507 [.obj a, dBack] s = some (tTold, s') := by
  rw [go507]
  simp [b507, dBack, Es.of, Xs.of, HEs.of, T.ins, h, tTold]
theorem tl_back_no (T : Tab s a l S row sl) (h : runX PD WF k 19 [.obj a] s = some (.ex "NoSuch" [("name", .str ""), ("word", .str "deed")], s)) : run PD WF (k + 1) 507 [.obj a, dBack] s = some (tNone, s) := by
  rw [go507]
  simp [b507, dBack, Es.of, Xs.of, HEs.of, T.ins, h, tNone, handle, sub_NR, sub_NS, sub_NN, slotOk, xfOf, List.lookup]
end
end K93

/-! K93, mathematics 7: one deed. -/
namespace K93
open PySem Fw Mx PG
structure SG (S : Stg) : Prop where
  fine : S.fine
  inT : S.inT
  man : ∀ t, t < S.tr.length → S.man t ∈ mans
  n1 : 1 ≤ S.n
  n8 : S.n ≤ 8
  t3 : S.tr.length ≤ 3
  m5 : S.nm.length ≤ 5
def Good (S : Stg) (c : List Nat) : Prop := c.length = S.n ∧ ∀ i ∈ c, i < S.n
structure Lot (s : Sto) (a l q : Nat) (S : Stg) (row : List Nat) (sl : List (List Nat)) : Prop where
  tab : Tab s a l S row sl
  st : getO s q = some (.lst (sl.map eM))
  good : ∀ c ∈ sl, Good S c
  rl : row.length = S.n
  few : sl.length ≤ 100
theorem last_mem {sl : List (List Nat)} (h : sl ≠ []) : lastL sl ∈ sl := by
  unfold lastL
  rw [List.getLastD_eq_getLast?]
  cases e : sl.getLast? with
  | none => exact absurd (List.getLast?_eq_none_iff.mp e) h
  | some x => exact List.mem_of_getLast? e
inductive DeedOk (S : Stg) : D → Prop
  | layN {d : D} : LayRes S d false → Mx.plain d = true → sz d ≤ 1000 → DeedOk S (dLay d)
  | layY {c : List Nat} : LayRes S (eM c) true → Good S c → DeedOk S (dLay (eM c))
  | ex {i j : Nat} : i < S.n → j < S.n → DeedOk S (dEx i j)
  | turn {t : Nat} {m : Int} : t < S.tr.length → DeedOk S (dTurn t m)
  | back : DeedOk S dBack
/-- an error as a tuple -/
def isErr (e : D) : Prop := ∃ x r, e = .tup (.str x :: r) ∧ Mx.plain e = true ∧ sz e ≤ 1000
theorem err_row : isErr tRow := ⟨_, _, rfl, by decide +kernel, by decide +kernel⟩
theorem err_step (w : Str) : isErr (tStep w) := ⟨_, _, rfl, rfl, by simp [tStep, sz, szL]⟩
theorem err_none : isErr tNone := ⟨_, _, rfl, by decide +kernel, by decide +kernel⟩
theorem good_comp {S : Stg} {last c : List Nat} (hl : Good S last) (hc : Good S c) : Good S (comp last c) := by
  refine ⟨by unfold comp; rw [List.length_map]; exact hc.1, fun i hi => ?_⟩
  unfold comp at hi
  obtain ⟨j, hj, rfl⟩ := List.mem_map.mp hi
  have hj' : j < last.length := by rw [hl.1]; exact hc.2 j hj
  rw [getn_eq hj']
  exact hl.2 _ (List.getElem_mem hj')
theorem good_swap {S : Stg} {i j : Nat} (hi : i < S.n) (hj : j < S.n) : Good S (swapN S.n i j) := by
  refine ⟨by simp [swapN], fun x hx => ?_⟩
  unfold swapN at hx
  rcases List.mem_or_eq_of_mem_set hx with hx | rfl
  · rcases List.mem_or_eq_of_mem_set hx with hx | rfl
    · exact List.mem_range.mp hx
    · exact hj
  · exact hi
theorem good_turn {S : Stg} {t : Nat} {m : Int} (ht : t < S.tr.length) (hm : S.man t ∈ (["ring", "turn"] : List Str)) : Good S (withP S (turnP S t (turnL S t m))) := by
  refine ⟨by unfold withP; rw [withF_len, List.length_range], ?_⟩
  rw [with_turn ht]
  refine setAll_mem ext (fun x hx => List.mem_range.mp hx) fun x hx => ?_
  rw [turn_from m hm] at hx
  obtain ⟨i, hi, rfl⟩ := List.mem_map.mp hx
  have hi := List.mem_range.mp hi
  have hf : fromAt (S.man t) m (S.places t).length i < (S.places t).length := by
    unfold fromAt
    split
    · have h1 := Int.fmod_nonneg_of_pos ((i : Int) + m) (show (0 : Int) < (S.places t).length by omega)
      have h2 := Int.fmod_lt_of_pos ((i : Int) + m) (show (0 : Int) < (S.places t).length by omega)
      omega
    · split <;> omega
  rw [getn_eq hf]
  exact mem_places (List.getElem_mem hf)
/-- what a deed brings -/
inductive Done (S : Stg) (sl : List (List Nat)) (dd due told : D) : List (List Nat) → Prop
  | err : isErr due → told = due → (∀ d, dd = dLay d → LayRes S d false) → Done S sl dd due told sl
  | lay {c c0 : List Nat} : due = eM c → told = tTold → Good S c → Good S c0 → dd = dLay (eM c0) → LayRes S (eM c0) true → c = comp (lastL sl) c0 → Done S sl dd due told (sl ++ [c])
  | put {c : List Nat} {x : Str} {r : List D} : due = eM c → told = tTold → Good S c → dd = .tup (.str x :: r) → x ≠ "lay" → x ≠ "back" → Done S sl dd due told (sl ++ [c])
  | back : due = .non → told = tTold → dd = dBack → sl.length ≠ 1 → Done S sl dd due told sl.dropLast
theorem tab_set {s : Sto} {a l : Nat} {S : Stg} {row : List Nat} {sl : List (List Nat)} (T : Tab s a l S row sl) (hal : a ≠ l) (sl' : List (List Nat)) (hne : sl' ≠ []) (hb : sl'.length < 1000000) (t : Sto) : Tab (setO (s ++ t) l (some (.lst (sl'.map eM)))) a l S row sl' := by
  have hl := getO_lt T.lay
  refine ⟨?_, getO_set _ _ (by rw [List.length_append]; omega), hne, hb⟩
  rw [getO_set_ne _ _ (Ne.symm hal)]
  exact getO_old T.ins
theorem keep_set {s : Sto} {l : Nat} (o : Option Ob) (t : Sto) : Keep s (setO (s ++ t) l o) [l] := (Keep.app s t [l]).trans (Keep.set _ _ _ _ (.inl (by simp)))
theorem deed_step {k : Nat} (hk : 7 ≤ k) {S : Stg} (hS : SG S) {s : Sto} {a l q : Nat} {row : List Nat} {sl : List (List Nat)} (L : Lot s a l q S row sl) (hal : a ≠ l) {dd : D} (hd : DeedOk S dd) :
    ∃ due s1 told s2 sl', run PD WF k 506 [S.d, .obj q, dd] s = some (due, s1) ∧ Keep s s1 [] ∧ run PD WF k 507 [.obj a, dd] s1 = some (told, s2) ∧ Keep s1 s2 [l] ∧ Tab s2 a l S row sl' ∧ Done S sl dd due told sl' := by
  have hne := L.tab.ne
  have hn8 := hS.n8
  have hlast := L.good _ (last_mem hne)
  have hfew := L.few
  obtain ⟨k, rfl⟩ := Nat.exists_eq_add_of_le' (show 1 ≤ k by omega)
  cases hd with
  | @layN d hr hp hz =>
    refine ⟨tRow, s, tRow, s, sl, mv_lay_no (by omega) L.st hne hr, .refl _ _, tl_lay_no L.tab ?_, .refl _ _, L.tab, .err err_row rfl fun d' e => ?_⟩
    · obtain ⟨k, rfl⟩ := Nat.exists_eq_add_of_le' (show 1 ≤ k by omega)
      exact t_lay_no ext (by omega) L.tab fun b s => hr.prog k b s (by omega)
    · have : d = d' := by simpa [dLay] using e
      subst this; exact hr
  | @layY c hr hc =>
    have hi : ∀ i ∈ c, i < (lastL sl).length := fun i h => by rw [hlast.1]; exact hc.2 i h
    have hcl := hc.1
    refine ⟨eM (comp (lastL sl) c), s, tTold, _, sl ++ [comp (lastL sl) c], mv_lay (by omega) L.st hne (by omega) hr hi, .refl _ _, tl_lay L.tab (s' := setO (s ++ []) l (some (.lst ((sl ++ [comp (lastL sl) c]).map eM)))) ?_, keep_set _ _, tab_set L.tab hal _ (by simp) (by simp; omega) _, .lay rfl rfl (good_comp hlast hc) hc rfl hr rfl⟩
    rw [List.append_nil]
    obtain ⟨k, rfl⟩ := Nat.exists_eq_add_of_le' (show 1 ≤ k by omega)
    exact t_lay_ok ext (by omega) L.tab (by omega) hi fun b s => hr.prog k b s (by omega)
  | @ex i j hi hj =>
    by_cases h1 : S.tray i = S.tray j
    · have ht := hS.inT i hi
      by_cases h2 : S.man (S.tray i) = "any"
      · obtain ⟨o, e1⟩ := mv_ex (k := k + 1) (by omega) L.st hne hi hj h1 ht h2 hlast.1
        have K1 := Keep.app s [o] []
        have T1 := L.tab.keep K1 (by simp) (by simp)
        obtain ⟨o2, e2⟩ := t_ex ext (k := k) (by omega) hS.fine T1 hi hj h1 ht h2 hlast.1
        refine ⟨_, _, tTold, _, sl ++ [comp (lastL sl) (swapN S.n i j)], e1, K1, tl_ex T1 e2, keep_set _ _, tab_set T1 hal _ (by simp) (by simp; omega) _, .put ?_ rfl (good_comp hlast (good_swap hi hj)) rfl (by simp) (by simp)⟩
        rw [comp_swap hlast.1]
      · exact ⟨_, _, _, _, sl, mv_ex_man (by omega) L.st hne hi hj h1 ht h2, .refl _ _, tl_ex_no L.tab (t_ex_man ext (by omega) hS.fine L.tab hi hj h1 ht h2), .refl _ _, L.tab, .err (err_step "manner") rfl fun d e => by simp [dLay, dEx] at e⟩
    · exact ⟨_, _, _, _, sl, mv_ex_tray (by omega) L.st hne hi hj h1, .refl _ _, tl_ex_no L.tab (t_ex_tray ext (by omega) hS.fine L.tab hi hj h1), .refl _ _, L.tab, .err (err_step "tray") rfl fun d e => by simp [dLay, dEx] at e⟩
  | @turn t m ht =>
    by_cases h2 : S.man t ∈ (["ring", "turn"] : List Str)
    · obtain ⟨o, e1⟩ := mv_turn (k := k + 1) (by omega) hS.fine L.st hne ht m hlast.1 h2
      have K1 := Keep.app s [o] []
      have T1 := L.tab.keep K1 (by simp) (by simp)
      obtain ⟨o2, e2⟩ := t_turn ext (k := k) (by omega) hS.fine T1 ht m h2 hlast.1
      refine ⟨_, _, tTold, _, sl ++ [comp (lastL sl) (withP S (turnP S t (turnL S t m)))], e1, K1, tl_turn T1 e2, keep_set _ _, tab_set T1 hal _ (by simp) (by simp; omega) _, .put ?_ rfl (good_comp hlast (good_turn ht h2)) rfl (by simp) (by simp)⟩
      rw [comp_turn ht m h2 hlast.1]
    · exact ⟨_, _, _, _, sl, mv_turn_no (by omega) hS.fine L.st hne ht m hlast.1 h2, .refl _ _, tl_turn_no L.tab (t_turn_no ext (by omega) hS.fine L.tab ht m h2), .refl _ _, L.tab, .err (err_step "manner") rfl fun d e => by simp [dLay, dTurn] at e⟩
  | back =>
    by_cases h1 : sl.length = 1
    · exact ⟨_, _, _, _, sl, mv_back_no (by omega) L.st h1, .refl _ _, tl_back_no L.tab (t_back_no ext (by omega) L.tab h1), .refl _ _, L.tab, .err err_none rfl fun d e => by simp [dLay, dBack] at e⟩
    · have hpos : 0 < sl.length := List.length_pos_iff.mpr hne
      refine ⟨.non, s, tTold, _, sl.dropLast, mv_back (by omega) L.st hne h1, .refl _ _, tl_back L.tab (s' := setO (s ++ []) l (some (.lst (sl.dropLast.map eM)))) ?_, keep_set _ _, tab_set L.tab hal _ ?_ (by simp; omega) _, .back rfl rfl rfl h1⟩
      · rw [List.append_nil]; exact t_back ext (by omega) L.tab h1
      · intro z
        have := congrArg List.length z
        simp at this
        omega
end K93

/-! K93, mathematics 8: where a table stands; a laying drawn. -/
namespace K93
open PySem Fw Mx PG
theorem WF_big : 100000 < WF := by decide +kernel
theorem same (k : Nat) (hk : 1 ≤ k) {d : D} (hp : Mx.plain d = true) (hz : sz d ≤ 100000) (b : Nat) (s : Sto) : (CC PD WF k b).run true 502 [d, d] s = some (.bl true, s) := same_ok (P := PD) rfl WF_big hk hp hz b s
theorem plain_M (l : List Nat) : Mx.plain (eM l) = true := by rw [eM_int]; simp only [Mx.plain]; exact plain_ints _
theorem szL_N : ∀ l : List Nat, szL (l.map eN) = l.length
  | [] => rfl
  | x :: l => by simp only [List.map_cons, szL, szL_N l, List.length_cons]; simp [eN, sz]; omega
theorem sz_M (l : List Nat) : sz (eM l) = l.length + 1 := by simp only [eM, sz, szL_N]
def plN : List Str := ["places", "marks", "names", "trays", "manner", "tray", "deed", "odd", "one", "two", "tray turned", "by", "mix", "turned", "back", "which", "other", "lies"]
theorem takeP : Take PD 501 plN := ⟨⟨39373, 63029, 7, 2147482481, 17, rfl, ⟨by decide, by decide, by decide, by decide, by decide⟩⟩, by simp [plN]⟩
section
variable {k : Nat} {s : Sto} {S : Stg} {row : List Nat} {sl : List (List Nat)} {a l q : Nat}
theorem comp_row (L : Lot s a l q S row sl) : ∀ i ∈ lastL sl, i < row.length := fun i hi => by rw [L.rl]; exact (L.good _ (last_mem L.tab.ne)).2 i hi
theorem stands (hk : 4 ≤ k) (hS : SG S) (L : Lot s a l q S row sl) : run PD WF k 509 [.obj a, eM row, .obj q] s = some (.bl true, s) := by
  obtain ⟨k, rfl⟩ := Nat.exists_eq_add_of_le' (show 1 ≤ k by omega)
  rw [go509]
  have hn8 := hS.n8
  have hl := L.good _ (last_mem L.tab.ne)
  have e0 := obj_last L.st L.tab.ne
  have e1 := t_row ext (k := k) (by omega) L.tab (by rw [hl.1]; omega) (comp_row L)
  have e2 := t_laying ext (k := k) (by omega) L.tab
  have e3 := t_deeds ext (k := k) (by omega) L.tab
  have e4 := lc_map (C := CC PD WF k s.length) (env := [some (.obj a), some (eM row), some (.obj q), some (eM (lastL sl)), none]) (g := .name 4) (t := .yes) (e := b509_1) (own := [4]) (s := s) eN (fun i => eN (getn row i)) (lastL sl) (by rw [hl.1]; omega) fun i hi => by
    have : ∀ s, atD s (eM row) (eN i) = some (eN (getn row i)) := fun s => by show L2.atI (row.map eN) _ = _; rw [atI_ofNat, List.getElem?_map, getn_some (comp_row L i hi)]; rfl
    simp [lcF, wipeD, b509_1, this]
  have e5 : seqSrc s (eM (lastL sl)) = some (.vals ((lastL sl).map eN)) := rfl
  have e6 : D.tup ((lastL sl).map fun i => eN (getn row i)) = eM (comp row (lastL sl)) := by simp only [eM, comp, List.map_map]; rfl
  have e7 := same k (by omega) (d := .tup [eM (comp row (lastL sl)), eM (lastL sl), .int ((sl.length : Int) - 1)]) (by simp [Mx.plain, plainL, plain_M]) (by
    simp only [sz, szL, sz_M]
    unfold comp
    rw [List.length_map, hl.1]; omega) s.length s
  simp [b509, Es.of, e0, L.tab.ins, e1, e2, e3, e5, e4, e6, len_obj L.st, e7]
end
/-! a laying drawn -/
/-- row stands for the list r -/
def Rd (s : Sto) (row : D) (r : List Nat) : Prop := ∀ i, i < r.length → atD s row (.int (i : Int)) = some (eN (getn r i))
theorem rd_obj {s : Sto} {n : Nat} {r : List Nat} (h : getO s n = some (.lst (r.map eN))) : Rd s (.obj n) r := fun i hi => by
  rw [atD_obj h, atI_ofNat, List.getElem?_map, getn_some hi]; rfl
theorem rd_lst (s : Sto) (r : List Nat) : Rd s (.lst (r.map eN)) r := fun i hi => by
  show L2.atI (r.map eN) _ = _
  rw [atI_ofNat, List.getElem?_map, getn_some hi]; rfl
theorem dr_for (k b : Nat) (x0 x1 x3 x5 x7 x8 : Option D) {s : Sto} {tl n : Nat} {T ps r : List Nat} {row : D} (hT : getO s tl = some (.lst (T.map eN))) (hTl : T.length = n) (hp : ∀ i ∈ ps, i < n) (hr : r.length = ps.length) (hrv : ∀ i ∈ r, i < n) (hTv : ∀ i ∈ T, i < n)
    (hrd : ∀ T' : List Nat, Rd (setO s tl (some (.lst (T'.map eN)))) row r) :
    ∃ (x8' : Option D) (T' : List Nat), forE (CC PD WF k b) (.name 8) b504_1 ((List.range ps.length).map fun (n : Nat) => D.int (n : Int)) [x0, x1, some (.obj tl), x3, some (.lst (ps.map eN)), x5, some row, x7, x8] s = some (.nx [x0, x1, some (.obj tl), x3, some (.lst (ps.map eN)), x5, some row, x7, x8'] (setO s tl (some (.lst (T'.map eN))))) ∧ T'.length = n ∧ ∀ i ∈ T', i < n := by
  have hlt := getO_lt hT
  obtain ⟨env', s', h1, x8', T', rfl, rfl, hl, hv⟩ := forE_inv (C := CC PD WF k b) (g := .name 8) (b := b504_1) (env := [x0, x1, some (.obj tl), x3, some (.lst (ps.map eN)), x5, some row, x7, x8]) (s := s) (fun (n : Nat) => D.int (n : Int))
    (fun p env s' => ∃ (x8 : Option D) (T' : List Nat), env = [x0, x1, some (.obj tl), x3, some (.lst (ps.map eN)), x5, some row, x7, x8] ∧ s' = setO s tl (some (.lst (T'.map eN))) ∧ T'.length = n ∧ ∀ i ∈ T', i < n) (List.range ps.length) ⟨x8, T, rfl, (setO_same hT).symm, hTl, hTv⟩ (by
      rintro p y t _ _ hl ⟨x8, T', rfl, rfl, hTl', hTv'⟩
      obtain ⟨rfl, hy⟩ := range_at hl
      have a1 : ∀ s, atD s (.lst (ps.map eN)) (.int p.length) = some (.int (getn ps p.length)) := fun s => by show L2.atI (ps.map eN) _ = _; rw [atI_ofNat, List.getElem?_map, getn_some hy]; rfl
      have a2 := hrd T' p.length (by omega)
      have hpi : getn ps p.length < n := by rw [getn_eq hy]; exact hp _ (List.getElem_mem hy)
      have hri : getn r p.length < n := by rw [getn_eq (by omega)]; exact hrv _ (List.getElem_mem _)
      have a3 : L2.ixN T'.length ((getn ps p.length : Nat) : Int) = some (getn ps p.length) := ixN_nat (by omega)
      have a4 : ∀ o, getO (setO s tl o) tl = o := fun o => getO_set _ _ hlt
      refine ⟨_, [x0, x1, some (.obj tl), x3, some (.lst (ps.map eN)), x5, some row, x7, some (.int p.length)], setO s tl (some (.lst ((T'.set (getn ps p.length) (getn r p.length)).map eN))), rfl, ?_, _, _, rfl, rfl, by simp [hTl'], fun i hi => ?_⟩
      · simp [b504_1, a1, a2, a3, a4, setO_set]
      · rcases List.mem_or_eq_of_mem_set hi with hi | rfl
        · exact hTv' i hi
        · exact hri)
  exact ⟨x8', T', h1, hl, hv⟩
theorem erase_map {α β : Type} (f : α → β) : ∀ (l : List α) (i : Nat), (l.map f).eraseIdx i = (l.eraseIdx i).map f
  | [], _ => rfl
  | _ :: _, 0 => rfl
  | x :: l, i + 1 => by
    show f x :: (l.map f).eraseIdx i = f x :: (l.eraseIdx i).map f
    rw [erase_map f l i]
theorem mem_erase {l : List Nat} {i x : Nat} (h : x ∈ l.eraseIdx i) : x ∈ l := (List.eraseIdx_sublist l i).subset h
theorem dr_mix (k b : Nat) (hk : 1 ≤ k) (env : En) {s : Sto} {lo ro : Nat} {Lf : List Nat} (h0 : env[0]? = some (some (.obj 2))) (h6 : env[6]? = some (some (.obj ro))) (h7 : env[7]? = some (some (.obj lo))) (hc : Cl plN s) (hne : lo ≠ ro) (hlo : 3 ≤ lo) (hro : 3 ≤ ro) (hl : getO s lo = some (.lst (Lf.map eN))) (hr : getO s ro = some (.lst [])) (hlen : Lf.length ≤ 1000) :
    ∃ (s' : Sto) (R : List Nat), whlE (CC PD WF k b) b504_2 b504_3 env s = some (.nx env s') ∧ Cl plN s' ∧ getO s' ro = some (.lst (R.map eN)) ∧ R.length = Lf.length ∧ (∀ i ∈ R, i ∈ Lf) ∧ Keep s s' [0, 1, 2, lo, ro] := by
  obtain ⟨env', s', h1, rfl, R, c', g', hl', hm', K'⟩ := whlE_inv (C := CC PD WF k b) (t := b504_2) (b := b504_3) (env := env) (s := s)
    (fun m e s' => env = e ∧ ∃ (L R : List Nat), m = L.length ∧ Cl plN s' ∧ getO s' lo = some (.lst (L.map eN)) ∧ getO s' ro = some (.lst (R.map eN)) ∧ L.length + R.length = Lf.length ∧ (∀ i ∈ L, i ∈ Lf) ∧ (∀ i ∈ R, i ∈ Lf) ∧ Keep s s' [0, 1, 2, lo, ro])
    (fun e s' => env = e ∧ ∃ R : List Nat, Cl plN s' ∧ getO s' ro = some (.lst (R.map eN)) ∧ R.length = Lf.length ∧ (∀ i ∈ R, i ∈ Lf) ∧ Keep s s' [0, 1, 2, lo, ro]) Lf.length (by show _ < WF; have := WF_big; omega)
    ⟨rfl, Lf, [], rfl, hc, hl, hr, by simp, fun i h => h, by simp, .refl _ _⟩ (by
      rintro m _ s' ⟨rfl, L, R, rfl, c', gl, gr, hlen', hL, hR, K'⟩
      cases L with
      | nil =>
        refine .inl ⟨s', by simp [b504_2, h7, len_obj gl], rfl, R, c', gr, by simpa using hlen', hR, K'⟩
      | cons x L =>
        right
        obtain ⟨r, s2, e1, t1, b1⟩ := take_ok (wf := WF) takeP hk c' (pl := "mix") (by simp [plN]) (x :: L).length (by simp at hlen' ⊢; omega)
        have hr1 : r < (x :: L).length := by simp at b1 ⊢; omega
        have n012 : ∀ n, 3 ≤ n → n ∉ [0, 1, 2] := fun n h => Mx.n012 h
        have gl2 := t1.kp.get gl (n012 lo hlo)
        have gr2 := t1.kp.get gr (n012 ro hro)
        have ll := getO_lt gl2
        have lr := getO_lt gr2
        have gx : ((x :: L).map eN)[r]? = some (eN (x :: L)[r]) := by rw [List.getElem?_map, List.getElem?_eq_getElem hr1]; rfl
        obtain ⟨s3, hs3⟩ : ∃ s3, s3 = setO s2 lo (some (.lst (((x :: L).eraseIdx r).map eN))) := ⟨_, rfl⟩
        have g3 : getO s3 ro = some (.lst (R.map eN)) := by rw [hs3, getO_set_ne _ _ hne]; exact gr2
        have g3l : getO s3 lo = some (.lst (((x :: L).eraseIdx r).map eN)) := by rw [hs3]; exact getO_set _ _ ll
        obtain ⟨s4, hs4⟩ : ∃ s4, s4 = setO s3 ro (some (.lst ((R ++ [(x :: L)[r]]).map eN))) := ⟨_, rfl⟩
        have hRl : R.length < 1000000 := by simp at hlen'; omega
        have hbody : exSs (CC PD WF k b) b504_3 env s' = some (.nx env s4) := by
          have hpop : evE (CC PD WF k b) env (.popAt (.var 7) (.call false 501 (Es.of [(.var 0), (.str "mix"), (.b1 .len (.var 7))]))) s' = some (eN (x :: L)[r], s3) := by
            have e1' : Fw.run PD WF k 501 [.obj 2, .str "mix", .int ((((x :: L).map eN).length : Nat) : Int)] s' = some (.int r, s2) := by rw [List.length_map]; exact e1
            have h63 : (r : Int) < 2 ^ 63 := by
              have h1000 : r < 2000 := by simp at hlen' hr1; omega
              omega
            simp only [evE_popAt, evE_var, h7, Option.bind_some, evE_call, Es.of, evEs_cons, evEs_nil, h0, evE_str, evE_b1, b1_len, len_obj gl, Option.map_some, own_CC, e1', gl2]
            rw [if_pos ⟨by omega, h63⟩]
            simp only [Int.toNat_natCast, gx, gl]
            rw [hs3, erase_map]
          simp only [b504_3, exSs_cons, exS_expr, evE_app, evE_var, h6, Option.bind_some, hpop, gr, g3, List.length_map, szl_val]
          rw [if_pos hRl]
          simp [hs4]
        refine ⟨s', env, s4, ((x :: L).eraseIdx r).length, by simp [b504_2, h7, len_obj gl], hbody, by rw [List.length_eraseIdx_of_lt hr1]; simp, rfl, (x :: L).eraseIdx r, R ++ [(x :: L)[r]], rfl, ?_, ?_, ?_, ?_, fun i h => hL i (mem_erase h), ?_, ?_⟩
        · rw [hs4, hs3]; exact (t1.cl.set hlo _).set hro _
        · rw [hs4, getO_set_ne _ _ (Ne.symm hne)]; exact g3l
        · rw [hs4]; exact getO_set _ _ (getO_lt g3)
        · rw [List.length_eraseIdx_of_lt hr1]; simp at hlen' ⊢; omega
        · intro i hi
          rcases List.mem_append.mp hi with h | h
          · exact hR i h
          · simp only [List.mem_singleton] at h
            subst h
            exact hL _ (List.getElem_mem hr1)
        · rw [hs4, hs3]
          refine ((K'.tr t1.kp fun n h => .inl (by simp at h ⊢; omega)).trans (Keep.set _ _ _ _ (.inl (by simp)))).trans (Keep.set _ _ _ _ (.inl (by simp))))
  exact ⟨s', R, h1, c', g', hl', hm', K'⟩
end K93

/-! K93, mathematics 9: a laying drawn. -/
namespace K93
open PySem Fw Mx PG
def DrI : Fw.S := .ife (.val (.cmp .eq (.var 5) (.str "any"))) (.cons (.par 7 6 (.newLst (.var 4)) (.newL .nil)) (.cons (.whl b504_2 b504_3) (.nil))) (.cons (.ife (.and (.val (.cmp .eq (.var 5) (.str "ring"))) (.val (.cmp .gt (.b1 .len (.var 4)) (.int 0)))) (.cons (.asg (.name 8) (.call false 501 (Es.of [(.var 0), (.str "turned"), (.b1 .len (.var 4))]))) (.cons (.asg (.name 6) (.bin .add (.slc (.var 4) (.some (.var 8)) .none) (.slc (.var 4) .none (.some (.var 8))))) (.nil))) (.cons (.ife (.and (.val (.cmp .eq (.var 5) (.str "turn"))) (.val (.cmp .eq (.call false 501 (Es.of [(.var 0), (.str "back"), (.int 2)])) (.int 0)))) (.cons (.asg (.name 6) (.rev (.var 4))) (.nil)) (.nil)) (.nil))) (.nil))
theorem dr_if (k b : Nat) (hk : 1 ≤ k) (m : Str) {s : Sto} {tl : Nat} (x1 x3 x7 x8 : Option D) (ps : List Nat) (hps : ps.length ≤ 1000) (hc : Cl plN s) (htl : tl < s.length) (h3 : 3 ≤ tl) :
    ∃ (rw_ : D) (x7' x8' : Option D) (r : List Nat) (sB : Sto), exS (CC PD WF k b) DrI [some (.obj 2), x1, some (.obj tl), x3, some (.lst (ps.map eN)), some (.str m), some (.obj s.length), x7, x8] (s ++ [some (.lst (ps.map eN))]) = some (.nx [some (.obj 2), x1, some (.obj tl), x3, some (.lst (ps.map eN)), some (.str m), some rw_, x7', x8'] sB) ∧
      Cl plN sB ∧ Keep s sB [0, 1, 2] ∧ r.length = ps.length ∧ (∀ i ∈ r, i ∈ ps) ∧ ∀ T' : List Nat, Rd (setO sB tl (some (.lst (T'.map eN)))) rw_ r := by
  have hcA := hc.app [some (.lst (ps.map eN))]
  have KA := Keep.app s [some (.lst (ps.map eN))] [0, 1, 2]
  have gA : getO (s ++ [some (.lst (ps.map eN))]) s.length = some (.lst (ps.map eN)) := by simp
  have hs3 : 3 ≤ s.length := hc.len
  by_cases c1 : m = "any"
  · subst c1
    obtain ⟨sC, hsC⟩ : ∃ sC : Sto, sC = s ++ [some (.lst (ps.map eN)), some (.lst (ps.map eN)), some (.lst [])] := ⟨_, rfl⟩
    have g1 : getO sC (s.length + 1) = some (.lst (ps.map eN)) := by rw [hsC, getO_appk]; rfl
    have g2 : getO sC (s.length + 2) = some (.lst []) := by rw [hsC, getO_appk]; rfl
    obtain ⟨s', R, e1, c', g', hl, hm, K'⟩ := dr_mix k b hk [some (.obj 2), x1, some (.obj tl), x3, some (.lst (ps.map eN)), some (.str "any"), some (.obj (s.length + 2)), some (.obj (s.length + 1)), x8] (s := sC) (lo := s.length + 1) (ro := s.length + 2) (Lf := ps) rfl rfl rfl (by rw [hsC]; exact hc.app _) (by omega) (by omega) (by omega) g1 g2 hps
    refine ⟨.obj (s.length + 2), some (.obj (s.length + 1)), x8, R, s', ?_, c', ?_, hl, hm, fun T' => ?_⟩
    · simp [DrI, Es.of, ← hsC, e1]
    · refine (show Keep s sC [0, 1, 2] by rw [hsC]; exact Keep.app _ _ _).tr K' fun n hn => ?_
      simp at hn ⊢; omega
    · exact rd_obj (by rw [getO_set_ne _ _ (by omega)]; exact g')
  · by_cases c2 : m = "ring" ∧ 0 < ps.length
    · obtain ⟨c2, h0⟩ := c2
      subst c2
      obtain ⟨r, s2, e1, t1, b1⟩ := take_ok (wf := WF) takeP hk hcA (pl := "turned") (by simp [plN]) ps.length (by omega)
      have hr : r ≤ ps.length := by omega
      have d1 : cutD (ps.map eN) (some (r : Int)) none = (ps.drop r).map eN := by rw [slc_from _ _ (by simpa using hr), List.map_drop]
      have d2 : cutD (ps.map eN) none (some (r : Int)) = (ps.take r).map eN := by rw [slc_to _ _ (by simpa using hr), List.map_take]
      have d3 := addL ((ps.drop r).map eN) ((ps.take r).map eN) (by simp; omega)
      rw [← List.map_append] at d3
      have h0' : (0 : Int) < (ps.length : Nat) := by omega
      have d3' : evBin .add (.lst ((ps.map eN).drop r)) (.lst ((ps.map eN).take r)) = some (.lst ((ps.drop r ++ ps.take r).map eN)) := by rw [← List.map_drop, ← List.map_take]; exact d3
      refine ⟨.lst ((ps.drop r ++ ps.take r).map eN), x7, some (.int r), ps.drop r ++ ps.take r, s2, ?_, t1.cl, KA.trans t1.kp, by simp; omega, fun i hi => ?_, fun T' => rd_lst _ _⟩
      · simp only [DrI, exS_ife, evT_val, evE_cmp, evE_var, evE_str, evT_and, evE_b1, evE_int, exSs_cons, exS_asg, evE_call, Es.of, evEs_cons, evEs_nil, evE_bin, evE_slc, evOe_some, evOe_none]
        simp [e1, h0', h0, d1, d2, d3', -List.map_append]
      · rcases List.mem_append.mp hi with h | h
        · exact List.mem_of_mem_drop h
        · exact List.mem_of_mem_take h
    · have n2 : (m = "ring" ∧ 0 < ps.length) ↔ False := ⟨c2, False.elim⟩
      have keepRow : ∀ s2 : Sto, Keep (s ++ [some (.lst (ps.map eN))]) s2 [0, 1, 2] → ∀ T' : List Nat, Rd (setO s2 tl (some (.lst (T'.map eN)))) (.obj s.length) ps := fun s2 h T' => by
        refine rd_obj ?_
        rw [getO_set_ne _ _ (by omega)]
        exact h.get gA (Mx.n012 hs3)
      by_cases c3 : m = "turn"
      · subst c3
        obtain ⟨r, s2, e1, t1, b1⟩ := take_ok (wf := WF) takeP hk hcA (pl := "back") (by simp [plN]) 2 (by omega) 2
        by_cases c4 : r = 0
        · subst c4
          refine ⟨.lst (ps.reverse.map eN), x7, x8, ps.reverse, s2, ?_, t1.cl, KA.trans t1.kp, by simp, fun i hi => by simpa using hi, fun T' => rd_lst _ _⟩
          have e1' : Fw.run PD WF k 501 [.obj 2, .str "back", .int 2] (s ++ [some (.lst (ps.map eN))]) = some (.int 0, s2) := e1
          simp [DrI, Es.of, e1']
        · refine ⟨.obj s.length, x7, x8, ps, s2, ?_, t1.cl, KA.trans t1.kp, rfl, fun i hi => hi, keepRow s2 t1.kp⟩
          have c4' : ¬ (r : Int) = 0 := by omega
          simp [DrI, Es.of, e1, c4, c4']
      · refine ⟨.obj s.length, x7, x8, ps, _, ?_, hcA, KA, rfl, fun i hi => hi, keepRow _ (.refl _ _)⟩
        by_cases c5 : m = "ring"
        · have h0 : ps = [] := by
            cases ps with
            | nil => rfl
            | cons x l => exact absurd ⟨c5, by simp⟩ c2
          subst h0 c5
          simp [DrI, Es.of]
        · simp [DrI, Es.of, c1, c3, c5]
theorem drawn_ok {k : Nat} (hk : 2 ≤ k) {S : Stg} (hS : SG S) {s : Sto} (hc : Cl plN s) : ∃ c s', run PD WF k 504 [.obj 2, S.d] s = some (eM c, s') ∧ Good S c ∧ Cl plN s' ∧ Keep s s' [0, 1, 2] := by
  obtain ⟨k, rfl⟩ := Nat.exists_eq_add_of_le' (show 1 ≤ k by omega)
  have hn8 := hS.n8
  have ht3 := hS.t3
  have hs3 : 3 ≤ s.length := hc.len
  obtain ⟨env', s', h1, x3, x4, x5, x6, x7, x8, T, rfl, c', g', hl, hv, K'⟩ := forE_inv (C := CC PD WF k s.length) (g := .name 3) (b := b504_6) (env := [some (.obj 2), some S.d, some (.obj s.length), none, none, none, none, none, none]) (s := s ++ [some (.lst ((List.range S.n).map eN))]) (fun (n : Nat) => D.int (n : Int))
    (fun p env s' => ∃ (x3 x4 x5 x6 x7 x8 : Option D) (T : List Nat), env = [some (.obj 2), some S.d, some (.obj s.length), x3, x4, x5, x6, x7, x8] ∧ Cl plN s' ∧ getO s' s.length = some (.lst (T.map eN)) ∧ T.length = S.n ∧ (∀ i ∈ T, i < S.n) ∧ Keep s s' [0, 1, 2]) (List.range S.tr.length)
    ⟨none, none, none, none, none, none, List.range S.n, rfl, hc.app _, by simp, by simp, fun i hi => List.mem_range.mp hi, Keep.app _ _ _⟩ (by
      rintro p y r _ s' hl ⟨x3, x4, x5, x6, x7, x8, T, rfl, c', g', hTl, hTv, K'⟩
      obtain ⟨rfl, ht⟩ := range_at hl
      obtain ⟨t, hte⟩ : ∃ t, t = p.length := ⟨_, rfl⟩
      rw [← hte] at ht ⊢
      have hpn := places_len S t
      have hlt := getO_lt g'
      have p1 := places_lc (CC PD WF k s.length) [some (.obj 2), some S.d, some (.obj s.length), some (.int t), x4, x5, x6, x7, x8] S hS.fine t 8 0 b504_5 b504_4 s' (by
        intro n hn env' he
        subst he
        obtain ⟨x, hx⟩ := pl_at hn
        exact ⟨by simp [wipeD, b504_5, hx], by simp [wipeD, b504_4]⟩)
      obtain ⟨z, hz⟩ := tr_get ext ht
      obtain ⟨rw_, x7', x8', r', sB, e2, cB, KB, hrl, hrm, hrd⟩ := dr_if k s.length (by omega) (S.man t) (s := s') (tl := s.length) (some S.d) (some (.int t)) x7 x8 (S.places t) (by omega) c' hlt hs3
      have gB := KB.get g' (Mx.n012 hs3)
      obtain ⟨x8'', T', e3, hT'l, hT'v⟩ := dr_for k s.length (some (.obj 2)) (some S.d) (some (.int t)) (some (.str (S.man t))) x7' x8' (s := sB) (tl := s.length) (n := S.n) (T := T) (ps := S.places t) (r := r') (row := rw_) gB hTl (fun i hi => mem_places hi) hrl (fun i hi => mem_places (hrm i hi)) hTv hrd
      have h1 : (S.n : Int) ≤ 1000000 := by omega
      have h2 : -1000000 ≤ (S.n : Int) := by omega
      have h3 : ((S.places t).length : Int) ≤ 1000000 := by omega
      have h4 : -1000000 ≤ ((S.places t).length : Int) := by omega
      refine ⟨_, [some (.obj 2), some S.d, some (.obj s.length), some (.int t), some (.lst ((S.places t).map eN)), some (.str (S.man t)), some rw_, x7', x8''], setO sB s.length (some (.lst (T'.map eN))), rfl, ?_, _, _, _, _, _, _, T', rfl, cB.set hs3 _, getO_set _ _ (getO_lt gB), hT'l, hT'v, (K'.trans KB).tr (Keep.set _ _ _ [s.length] (.inl (by simp))) fun n hn => .inr (by simp at hn; omega)⟩
      have p1' : srcGo _ (.vals ((List.range S.pl.length).map fun (n : Nat) => D.int (n : Int))) s' = _ := p1
      have h1' : (S.pl.length : Int) ≤ 1000000 := h1
      have h2' : -1000000 ≤ (S.pl.length : Int) := h2
      refine stA (e1 := [some (.obj 2), some S.d, some (.obj s.length), some (.int t), some (.lst ((S.places t).map eN)), x5, x6, x7, x8]) (s1 := s') (by simp [rg_nat, p1', h1', h2']) ?_
      refine stA (e1 := [some (.obj 2), some S.d, some (.obj s.length), some (.int t), some (.lst ((S.places t).map eN)), some (.str (S.man t)), some (.obj s'.length), x7, x8]) (s1 := s' ++ [some (.lst ((S.places t).map eN))]) (by simp [hz]) ?_
      refine stA e2 ?_
      refine stA (e1 := [some (.obj 2), some S.d, some (.obj s.length), some (.int t), some (.lst ((S.places t).map eN)), some (.str (S.man t)), some rw_, x7', x8'']) (s1 := setO sB s.length (some (.lst (T'.map eN)))) ?_ (by simp)
      simp [rg_nat, h3, h4, e3])
  refine ⟨T, s', ?_, ⟨hl, hv⟩, c', K'⟩
  rw [go504]
  have h3 : (S.tr.length : Int) ≤ 1000000 := by omega
  have h4 : -1000000 ≤ (S.tr.length : Int) := by omega
  have rgn : rgD (S.pl.length : Int) = (List.range S.n).map eN := rg_nat _
  have hx1 : (S.pl.length : Int) ≤ 1000000 := by have : S.pl.length = S.n := rfl; omega
  refine Fw.st (F := fin) (e1 := [some (.obj 2), some S.d, some (.obj s.length), none, none, none, none, none, none]) (s1 := s ++ [some (.lst ((List.range S.n).map eN))]) ?_ ?_
  · simp [rgn, hx1]
  · simp [rg_nat, h3, h4, h1, Es.of, list_obj g', eM]
end K93

/-! K93, mathematics 10: a deed drawn. -/
namespace K93
open PySem Fw Mx PG
theorem szL_I : ∀ l : List Int, szL (l.map .int) = l.length
  | [] => rfl
  | x :: l => by simp only [List.map_cons, szL, szL_I l, List.length_cons]; simp [sz]; omega
theorem deed_ints {S : Stg} (hS : SG S) {a : List Int} (hl : a.length = S.n) : DeedOk S (dLay (.tup (a.map .int))) := by
  have h := lay_ints hS.fine hS.inT hS.man hl
  have hn8 := hS.n8
  cases hv : S.isLay a with
  | false =>
    rw [hv] at h
    exact .layN h (by simp only [Mx.plain]; exact plain_ints a) (by simp only [sz, szL_I]; omega)
  | true =>
    rw [hv] at h
    obtain ⟨c, rfl, hc, hp⟩ := isLay_nat hS.inT hl hv
    have e : D.tup ((c.map Int.ofNat).map .int) = eM c := (eM_int c).symm
    rw [e] at h ⊢
    exact .layY h ⟨hc, fun i hi => List.mem_range.mp (hp.subset hi)⟩
theorem flat_rep (d : D) : ∀ n : Nat, (List.replicate n [d]).flatten = List.replicate n d
  | 0 => rfl
  | n + 1 => by rw [List.replicate_succ, List.replicate_succ, List.flatten_cons, flat_rep d n]; rfl
theorem plain_rep {d : D} (h : Mx.plain d = true) : ∀ n : Nat, plainL (List.replicate n d) = true
  | 0 => rfl
  | n + 1 => by rw [List.replicate_succ, plainL, h, plain_rep h n]; rfl
theorem szL_rep {d : D} : ∀ n : Nat, szL (List.replicate n d) = n * sz d
  | 0 => by simp [szL]
  | n + 1 => by rw [List.replicate_succ, szL, szL_rep n, Nat.succ_mul]; omega
theorem mulT (d : D) {n : Nat} (h1 : 1 ≤ n) (h8 : n ≤ 8) : evBin .mul (.tup [d]) (.int n) = some (.tup (List.replicate n d)) := by
  show (if _ then _ else _) = _
  rw [if_pos ⟨by simp, by omega, by omega, by simp⟩, Int.toNat_natCast, flat_rep]
theorem cut_m1 (l : List D) : cutD l none (some (-1)) = l.take (l.length - 1) := by
  unfold cutD
  rw [HT.sIx_none]
  have : HT.sIx l.length l.length (some (-1)) = l.length - 1 := by
    show (if (-1 : Int) < 0 then ((-1 : Int) + (l.length : Int)).toNat else min (-1 : Int).toNat l.length) = _
    rw [if_pos (by omega)]; omega
  rw [this]
  simp
def odds (n : Nat) (c : List Nat) : List D := [.non, .int 5, .str "x", .lst (c.map eN), .tup ((c.map eN).take (c.length - 1)), .tup (c.map eN ++ [.int 0]), .tup ((c.map eN).reverse), .tup (List.replicate n (.bl true)), .tup (List.replicate n (.str "0")), .tup (List.replicate n (.int 0)), .tup (c.map fun (i : Nat) => .int ((i : Int) - 1)), .tup ((List.range n).map eN).reverse]
theorem odds_ok {S : Stg} (hS : SG S) {c : List Nat} (hc : Good S c) : ∀ d ∈ odds S.n c, DeedOk S (dLay d) := by
  have hn8 := hS.n8
  have hn1 := hS.n1
  have hcl := hc.1
  intro d hd
  simp only [odds, List.mem_cons, List.not_mem_nil, or_false] at hd
  have pc : plainL (c.map eN) = true := by rw [mapN]; exact plain_ints _
  rcases hd with rfl | rfl | rfl | rfl | rfl | rfl | rfl | rfl | rfl | rfl | rfl | rfl
  · exact .layN (lay_no hS.fine rfl rfl) rfl (by simp [sz])
  · exact .layN (lay_no hS.fine rfl rfl) rfl (by simp [sz])
  · exact .layN (lay_no hS.fine rfl rfl) rfl (by simp [sz])
  · refine .layN (lay_no hS.fine ?_ rfl) ?_ ?_
    · simp only [Mx.plain]; exact pc
    · simp only [Mx.plain]; exact pc
    · simp only [sz, szL_N]; omega
  · have e : (c.map eN).take (c.length - 1) = (c.take (c.length - 1)).map eN := by rw [List.map_take]
    rw [e]
    refine .layN (lay_len hS.fine ?_ ?_) ?_ ?_
    · rw [mapN]; exact plain_ints _
    · simp; omega
    · simp only [Mx.plain]; rw [mapN]; exact plain_ints _
    · simp only [sz, szL_N, List.length_take]; omega
  · refine .layN (lay_len hS.fine ?_ ?_) ?_ ?_
    · rw [plainL_app, pc]; rfl
    · simp; omega
    · simp only [Mx.plain]; rw [plainL_app, pc]; rfl
    · simp only [sz, szL_app, szL_N]; simp [szL, sz]; omega
  · have e : (c.map eN).reverse = (c.reverse.map Int.ofNat).map .int := by rw [← mapN, List.map_reverse]
    rw [e]
    exact deed_ints hS (by simp; omega)
  · refine .layN (lay_bad hS.fine (plain_rep rfl _) (by simp) ?_) ?_ ?_
    · obtain ⟨m, hm⟩ := Nat.exists_eq_add_of_le' hn1
      rw [hm, List.replicate_succ]; rfl
    · simp only [Mx.plain]; exact plain_rep rfl _
    · simp only [sz, szL_rep]; omega
  · refine .layN (lay_bad hS.fine (plain_rep rfl _) (by simp) ?_) ?_ ?_
    · obtain ⟨m, hm⟩ := Nat.exists_eq_add_of_le' hn1
      rw [hm, List.replicate_succ]; rfl
    · simp only [Mx.plain]; exact plain_rep rfl _
    · simp only [sz, szL_rep]; omega
  · have e : List.replicate S.n (D.int 0) = (List.replicate S.n (0 : Int)).map .int := by rw [List.map_replicate]
    rw [e]
    exact deed_ints hS (by simp)
  · have e : (c.map fun (i : Nat) => D.int ((i : Int) - 1)) = (c.map fun (i : Nat) => (i : Int) - 1).map .int := by rw [List.map_map]; rfl
    rw [e]
    exact deed_ints hS (by simp; omega)
  · have e : ((List.range S.n).map eN).reverse = ((List.range S.n).reverse.map Int.ofNat).map .int := by rw [← mapN, List.map_reverse]
    rw [e]
    exact deed_ints hS (by simp)
def oddE : E := (.tup (Es.of [.non, (.int 5), (.str "x"), (.b1 .lst (.var 4)), (.slc (.var 4) .none (.some (.int (-1)))), (.bin .add (.var 4) (.tup (Es.of [(.int 0)]))), (.rev (.var 4)), (.bin .mul (.tup (Es.of [(.bl true)])) (.var 2)), (.bin .mul (.tup (Es.of [(.str "0")])) (.var 2)), (.bin .mul (.tup (Es.of [(.int 0)])) (.var 2)), (.b1 .tup (.lc (.name 7) (.seq (.var 4)) .yes b508_1 [7])), (.rev (.tupRg (.var 2)))]))
def LayB : Ss := .cons (.asg (.name 4) (.call false 504 (Es.of [(.var 0), (.var 1)]))) (.cons (.asg (.name 5) oddE) (.cons (.ret (.tup (Es.of [(.str "lay"), (.ife (.val (.cmp .eq (.var 3) (.int 2))) (.idx (.var 5) (.call false 501 (Es.of [(.var 0), (.str "odd"), (.int 12)]))) (.var 4))]))) (.nil)))
def R508 : Ss := .cons (.ife (.val (.cmp .lt (.var 3) (.int 6))) (.cons (.ret (.tup (Es.of [(.str "exchange"), (.call false 501 (Es.of [(.var 0), (.str "one"), (.var 2)])), (.call false 501 (Es.of [(.var 0), (.str "two"), (.var 2)]))]))) (.nil)) (.nil)) (.cons (.ife (.val (.cmp .lt (.var 3) (.int 9))) (.cons (.asg (.name 6) (.tup (Es.of [(.int 0), (.int 1), (.int (-1)), (.int 2), (.int (-2)), (.int 3), (.int 7), (.bin .pow (.int 10) (.int 30)), (.bin .sub (.bin .sub (.int 0) (.bin .pow (.int 10) (.int 25))) (.int 1))]))) (.cons (.ret (.tup (Es.of [(.str "turn"), (.call false 501 (Es.of [(.var 0), (.str "tray turned"), (.b1 .len (.idx (.var 1) (.int 1)))])), (.idx (.var 6) (.call false 501 (Es.of [(.var 0), (.str "by"), (.int 9)])))]))) (.nil))) (.nil)) (.cons (.ret (.tup (Es.of [(.str "back")]))) (.nil)))
theorem b508_eq : b508 = .cons (.asg (.name 2) (.b1 .len (.idx (.var 1) (.int 2)))) (.cons (.asg (.name 3) (.call false 501 (Es.of [(.var 0), (.str "deed"), (.int 11)]))) (.cons (.ife (.val (.cmp .lt (.var 3) (.int 3))) LayB (.nil)) R508)) := rfl
theorem deed_ok {k : Nat} (hk : 3 ≤ k) {S : Stg} (hS : SG S) {s : Sto} (hc : Cl plN s) : ∃ dd s', run PD WF k 508 [.obj 2, S.d] s = some (dd, s') ∧ DeedOk S dd ∧ Cl plN s' ∧ Keep s s' [0, 1, 2] := by
  obtain ⟨k, rfl⟩ := Nat.exists_eq_add_of_le' (show 1 ≤ k by omega)
  have hn8 := hS.n8
  have hn1 := hS.n1
  have ht3 := hS.t3
  have hk1 : 1 ≤ k := by omega
  rw [go508]
  have sn : S.pl.length = S.n := rfl
  obtain ⟨w, s1, e1, t1, b1⟩ := take_ok (wf := WF) takeP hk1 hc (pl := "deed") (by simp [plN]) 11 (by omega) 11
  by_cases w3 : w < 3
  · have w3' : (w : Int) < 3 := by omega
    obtain ⟨c, s2, e2, hg, c2, K2⟩ := drawn_ok (k := k) (by omega) hS t1.cl
    have e2' : run PD WF k 504 [.obj 2, S.d] s1 = some (.tup (c.map eN), s2) := e2
    have f1 : evBin .mul (.tup [.bl true]) (.int (S.pl.length : Nat)) = some (.tup (List.replicate S.pl.length (.bl true))) := mulT (.bl true) hn1 hn8
    have f2 : evBin .mul (.tup [.str "0"]) (.int (S.pl.length : Nat)) = some (.tup (List.replicate S.pl.length (.str "0"))) := mulT (.str "0") hn1 hn8
    have f3 : evBin .mul (.tup [.int 0]) (.int (S.pl.length : Nat)) = some (.tup (List.replicate S.pl.length (.int 0))) := mulT (.int 0) hn1 hn8
    have f4 := addT (c.map eN) [.int 0] (by simp; have := hg.1; omega)
    have f5 : cutD (c.map eN) none (some (-1)) = (c.map eN).take (c.length - 1) := by rw [cut_m1, List.length_map]
    have f6 : (S.pl.length : Int) ≤ 1000000 := by omega
    have rgn : rgD (S.pl.length : Int) = (List.range S.pl.length).map eN := rg_nat _
    have f7 := lc_map (C := CC PD WF k s.length) (env := [some (.obj 2), some S.d, some (.int S.pl.length), some (.int w), some (.tup (c.map eN)), none, none, none]) (g := .name 7) (t := .yes) (e := b508_1) (own := [7]) (s := s2) eN (fun (i : Nat) => .int ((i : Int) - 1)) c (by have := hg.1; omega) fun i _ => by
      simp [lcF, wipeD, b508_1, eN]
    have st5 : exS (CC PD WF k s.length) (.asg (.name 5) oddE)
        [some (.obj 2), some S.d, some (.int S.pl.length), some (.int w), some (.tup (c.map eN)), none, none, none] s2 = some (.nx [some (.obj 2), some S.d, some (.int S.pl.length), some (.int w), some (.tup (c.map eN)), some (.tup (odds S.n c)), none, none] s2) := by
      simp only [odds, sn.symm]
      simp [oddE, Es.of, f1, f2, f3, f4, f5, f6, f7, rgn, -List.map_take, -List.map_reverse]
    have st4 : exS (CC PD WF k s.length) (.asg (.name 4) (.call false 504 (Es.of [(.var 0), (.var 1)]))) [some (.obj 2), some S.d, some (.int S.pl.length), some (.int w), none, none, none, none] s1 = some (.nx [some (.obj 2), some S.d, some (.int S.pl.length), some (.int w), some (.tup (c.map eN)), none, none, none] s2) := by simp [Es.of, e2']
    have lay : ∀ d s3, exS (CC PD WF k s.length) (.ret (.tup (Es.of [(.str "lay"), (.ife (.val (.cmp .eq (.var 3) (.int 2))) (.idx (.var 5) (.call false 501 (Es.of [(.var 0), (.str "odd"), (.int 12)]))) (.var 4))]))) [some (.obj 2), some S.d, some (.int S.pl.length), some (.int w), some (.tup (c.map eN)), some (.tup (odds S.n c)), none, none] s2 = some (.rt d s3) → fin (exSs (CC PD WF k s.length) b508 [some (.obj 2), some S.d, none, none, none, none, none, none] s) = some (d, s3) := by
      intro d s3 h
      rw [b508_eq]
      refine Fw.st (F := fin) (e1 := [some (.obj 2), some S.d, some (.int S.pl.length), none, none, none, none, none]) (s1 := s) (by simp) ?_
      refine Fw.st (F := fin) (e1 := [some (.obj 2), some S.d, some (.int S.pl.length), some (.int w), none, none, none, none]) (s1 := s1) (by simp [Es.of, e1]) ?_
      have hb : exSs (CC PD WF k s.length) LayB [some (.obj 2), some S.d, some (.int S.pl.length), some (.int w), none, none, none, none] s1 = some (.rt d s3) := stA st4 (stA st5 (stRt h))
      simp [w3', hb]
    by_cases w2 : w = 2
    · subst w2
      obtain ⟨o, s3, e3, t3, b3⟩ := take_ok (wf := WF) takeP hk1 c2 (pl := "odd") (by simp [plN]) 12 (by omega) 12
      have ho : o < (odds S.n c).length := by simp [odds]; omega
      refine ⟨dLay (odds S.n c)[o], s3, lay _ _ ?_, odds_ok hS hg _ (List.getElem_mem ho), t3.cl, (t1.kp.trans K2).trans t3.kp⟩
      have ho' : (odds S.n c)[o]? = some (odds S.n c)[o] := List.getElem?_eq_getElem ho
      simp [Es.of, e3, ho', dLay]
    · have w2' : ¬ (w : Int) = 2 := by omega
      refine ⟨dLay (eM c), s2, lay _ _ ?_, ?_, c2, t1.kp.trans K2⟩
      · simp [Es.of, w2', dLay, eM]
      · rw [eM_int]; exact deed_ints hS (by simp; exact hg.1)
  · have w3' : ¬ (w : Int) < 3 := by omega
    have go : ∀ r, fin (exSs (CC PD WF k s.length) R508 [some (.obj 2), some S.d, some (.int S.pl.length), some (.int w), none, none, none, none] s1) = r → fin (exSs (CC PD WF k s.length) b508 [some (.obj 2), some S.d, none, none, none, none, none, none] s) = r := by
      intro r h
      rw [b508_eq]
      refine Fw.st (F := fin) (e1 := [some (.obj 2), some S.d, some (.int S.pl.length), none, none, none, none, none]) (s1 := s) (by simp) ?_
      refine Fw.st (F := fin) (e1 := [some (.obj 2), some S.d, some (.int S.pl.length), some (.int w), none, none, none, none]) (s1 := s1) (by simp [Es.of, e1]) ?_
      refine Fw.st (F := fin) (e1 := [some (.obj 2), some S.d, some (.int S.pl.length), some (.int w), none, none, none, none]) (s1 := s1) (by simp [w3']) h
    by_cases w6 : w < 6
    · have w6' : (w : Int) < 6 := by omega
      obtain ⟨i, s2, e2, t2, b2⟩ := take_ok (wf := WF) takeP hk1 t1.cl (pl := "one") (by simp [plN]) S.pl.length (by omega)
      obtain ⟨j, s3, e3, t3, b3⟩ := take_ok (wf := WF) takeP hk1 t2.cl (pl := "two") (by simp [plN]) S.pl.length (by omega)
      refine ⟨dEx i j, s3, go _ ?_, .ex (by omega) (by omega), t3.cl, (t1.kp.trans t2.kp).trans t3.kp⟩
      simp [R508, w6', Es.of, e2, e3, dEx]
    · have w6' : ¬ (w : Int) < 6 := by omega
      by_cases w9 : w < 9
      · have w9' : (w : Int) < 9 := by omega
        obtain ⟨t, s2, e2, t2, b2⟩ := take_ok (wf := WF) takeP hk1 t1.cl (pl := "tray turned") (by simp [plN]) S.tr.length (by omega)
        obtain ⟨y, s3, e3, t3, b3⟩ := take_ok (wf := WF) takeP hk1 t2.cl (pl := "by") (by simp [plN]) 9 (by omega) 9
        have p1 := powI 10 30 ⟨by decide, by decide, by decide⟩
        have p2 := powI 10 25 ⟨by decide, by decide, by decide⟩
        obtain ⟨P1, hP1⟩ : ∃ z : Int, z = 10 ^ (30 : Int).toNat := ⟨_, rfl⟩
        obtain ⟨P2, hP2⟩ : ∃ z : Int, z = 10 ^ (25 : Int).toNat := ⟨_, rfl⟩
        rw [← hP1] at p1
        rw [← hP2] at p2
        have hy : y < ([0, 1, -1, 2, -2, 3, 7, P1, 0 - P2 - 1] : List Int).length := by simp; omega
        have hy' : ([.int 0, .int 1, .int (-1), .int 2, .int (-2), .int 3, .int 7, .int P1, .int (0 - P2 - 1)] : List D)[y]? = some (.int ([0, 1, -1, 2, -2, 3, 7, P1, 0 - P2 - 1] : List Int)[y]) := by
          have := List.getElem?_map (f := D.int) (l := ([0, 1, -1, 2, -2, 3, 7, P1, 0 - P2 - 1] : List Int)) (i := y)
          rw [List.getElem?_eq_getElem hy] at this
          exact this
        generalize ([0, 1, -1, 2, -2, 3, 7, P1, 0 - P2 - 1] : List Int)[y] = m at hy'
        refine ⟨dTurn t m, s3, go _ ?_, .turn (by have h0 := hS.inT 0 (by omega); omega), t3.cl, (t1.kp.trans t2.kp).trans t3.kp⟩
        have z0 : (0 : Int) - P2 - 1 = -P2 - 1 := by omega
        rw [z0] at hy'
        simp [R508, w6', w9', Es.of, e2, e3, p1, p2, hy', dTurn]
      · have w9' : ¬ (w : Int) < 9 := by omega
        refine ⟨dBack, s1, go _ ?_, .back, t1.cl, t1.kp⟩
        simp [R508, w6', w9', Es.of, dBack]
end K93

/-! K93, mathematics 11: the two tables are made. -/
namespace K93
open PySem Fw Mx PG
theorem sg_ok {S : Stg} (h : S.ok 8) : SG S := by
  refine ⟨ok_fine h, inT_ok h, fun t ht => ?_, h.p1, h.p8, h.t3, ?_⟩
  · rw [man_get S ht]; exact h.tm _ (List.getElem_mem ht)
  · have := h.n5
    split at this
    · omega
    · split at this <;> omega
structure LotR where
  a : Nat
  l : Nat
  q : Nat
  S : Stg
  row : List Nat
  sl : List (List Nat)
def LotR.d (x : LotR) : D := .tup [.obj x.a, x.S.d, eM x.row, .obj x.q]
def LotR.ix (x : LotR) : List Nat := [x.a, x.l, x.q]
def LotR.ok (s : Sto) (x : LotR) : Prop := Lot s x.a x.l x.q x.S x.row x.sl ∧ SG x.S
structure Ses (s : Sto) (ls : List LotR) : Prop where
  cl : Cl plN s
  lots : getO s 3 = some (.lst (ls.map LotR.d))
  ok : ∀ x ∈ ls, x.ok s
  nd : (ls.flatMap LotR.ix).Nodup
  ge : ∀ n ∈ ls.flatMap LotR.ix, 4 ≤ n
theorem Lot.keep {s s' : Sto} {a l q : Nat} {S : Stg} {row : List Nat} {sl : List (List Nat)} (L : Lot s a l q S row sl) {T : List Nat} (K : Keep s s' T) (ha : a ∉ T) (hl : l ∉ T) (hq : q ∉ T) : Lot s' a l q S row sl :=
  ⟨L.tab.keep K ha hl, K.get L.st hq, L.good, L.rl, L.few⟩
theorem Lot.lt {s : Sto} {a l q : Nat} {S : Stg} {row : List Nat} {sl : List (List Nat)} (L : Lot s a l q S row sl) : a < s.length ∧ l < s.length ∧ q < s.length := ⟨getO_lt L.tab.ins, getO_lt L.tab.lay, getO_lt L.st⟩
theorem Ses.lt {s : Sto} {ls : List LotR} (h : Ses s ls) : ∀ n ∈ ls.flatMap LotR.ix, n < s.length := fun n hn => by
  obtain ⟨x, hx, hm⟩ := List.mem_flatMap.mp hn
  obtain ⟨h1, h2, h3⟩ := (h.ok x hx).1.lt
  simp only [LotR.ix, List.mem_cons, List.not_mem_nil, or_false] at hm
  omega
theorem Ses.keep {s s' : Sto} {ls : List LotR} (h : Ses s ls) (K : Keep s s' [0, 1, 2]) (c : Cl plN s') : Ses s' ls := by
  refine ⟨c, K.get h.lots (by simp), fun x hx => ?_, h.nd, h.ge⟩
  have g : ∀ n ∈ x.ix, n ∉ [0, 1, 2] := fun n hn => Mx.n012 (by have := h.ge n (List.mem_flatMap.mpr ⟨x, hx, hn⟩); omega)
  exact ⟨(h.ok x hx).1.keep K (g _ (by simp [LotR.ix])) (g _ (by simp [LotR.ix])) (g _ (by simp [LotR.ix])), (h.ok x hx).2⟩
theorem plain_good (S : Stg) : Good S (List.range S.n) := ⟨by simp, fun i hi => List.mem_range.mp hi⟩
/-- one more table -/
theorem Ses.push {s : Sto} {ls : List LotR} (h : Ses s ls) {S : Stg} (hS : SG S) {row : List Nat} (hr : row.length = S.n) :
    Ses (setO (s ++ [some (.ins "Table" (tabF S row (s.length + 1))), some (.lst [eM (List.range S.n)]), some (.lst [eM (List.range S.n)])]) 3 (some (.lst ((ls ++ [(⟨s.length, s.length + 1, s.length + 2, S, row, [List.range S.n]⟩ : LotR)]).map LotR.d)))) (ls ++ [⟨s.length, s.length + 1, s.length + 2, S, row, [List.range S.n]⟩]) := by
  have h3 := getO_lt h.lots
  obtain ⟨s1, hs1⟩ : ∃ s1 : Sto, s1 = s ++ [some (.ins "Table" (tabF S row (s.length + 1))), some (.lst [eM (List.range S.n)]), some (.lst [eM (List.range S.n)])] := ⟨_, rfl⟩
  rw [← hs1]
  have K1 : Keep s s1 [] := by rw [hs1]; exact Keep.app _ _ _
  have K2 : ∀ o, Keep s1 (setO s1 3 o) [3] := fun o => Keep.set _ _ _ _ (.inl (by simp))
  have g0 : getO s1 s.length = some (.ins "Table" (tabF S row (s.length + 1))) := by rw [hs1, getO_app0]; rfl
  have g1 : getO s1 (s.length + 1) = some (.lst [eM (List.range S.n)]) := by rw [hs1, getO_appk]; rfl
  have g2 : getO s1 (s.length + 2) = some (.lst [eM (List.range S.n)]) := by rw [hs1, getO_appk]; rfl
  have hl1 : 3 < s1.length := by rw [hs1]; simp; omega
  refine ⟨(h.cl.keep K1 (by simp) (by simp) (by simp)).set (by omega) _, getO_set _ _ hl1, fun x hx => ?_, ?_, ?_⟩
  · rcases List.mem_append.mp hx with hx | hx
    · have g : ∀ n ∈ x.ix, n ∉ [3] := fun n hn => by have := h.ge n (List.mem_flatMap.mpr ⟨x, hx, hn⟩); simp; omega
      have K := (K1.mono (T' := [3]) (by simp)).trans (K2 (some (.lst ((ls ++ [(⟨s.length, s.length + 1, s.length + 2, S, row, [List.range S.n]⟩ : LotR)]).map LotR.d))))
      exact ⟨(h.ok x hx).1.keep K (g _ (by simp [LotR.ix])) (g _ (by simp [LotR.ix])) (g _ (by simp [LotR.ix])), (h.ok x hx).2⟩
    · simp only [List.mem_singleton] at hx
      subst hx
      refine ⟨⟨⟨?_, ?_, by simp, by simp⟩, ?_, ?_, hr, by simp⟩, hS⟩
      · rw [getO_set_ne _ _ (by show 3 ≠ s.length; omega)]; exact g0
      · rw [getO_set_ne _ _ (by show 3 ≠ s.length + 1; omega)]; exact g1
      · rw [getO_set_ne _ _ (by show 3 ≠ s.length + 2; omega)]; exact g2
      · intro c hc
        simp only [List.mem_singleton] at hc
        subst hc
        exact plain_good S
  · rw [List.flatMap_append]
    refine List.nodup_append.mpr ⟨h.nd, ?_, ?_⟩
    · simp [LotR.ix]
    · intro x hx y hy e
      have := h.lt x hx
      simp [LotR.ix] at hy
      omega
  · intro n hn
    rw [List.flatMap_append] at hn
    rcases List.mem_append.mp hn with hn | hn
    · exact h.ge n hn
    · simp [LotR.ix] at hn; omega
theorem lies_row {k : Nat} (hk : 1 ≤ k) {S : Stg} (hS : SG S) (C_b : Nat) (env : En) {s : Sto} (hc : Cl plN s) (h0 : env[0]? = some (some (.obj 2))) (h3 : env[3]? = some (some S.d)) (h11 : env.length = 12) :
    ∃ (row : List Nat) (s' : Sto), srcGo (lcF (CC PD WF k C_b) env (.name 11) .yes b510_4 [11]) (.vals (S.pl.map eP)) s = some (row.map eN, s') ∧ row.length = S.n ∧ Cl plN s' ∧ Keep s s' [0, 1, 2] := by
  obtain ⟨out, s', e, row, rfl, hl, c', K'⟩ := lc_inv (C := CC PD WF k C_b) (env := env) (g := .name 11) (t := .yes) (e := b510_4) (own := [11]) (s := s) eP
    (fun p acc s' => ∃ row : List Nat, acc = row.map eN ∧ row.length = p.length ∧ Cl plN s' ∧ Keep s s' [0, 1, 2]) S.pl (by have := hS.n8; have : S.pl.length = S.n := rfl; omega) ⟨[], rfl, rfl, hc, .refl _ _⟩ (by
      rintro p y q _ s' hl ⟨row, rfl, hrl, c', K'⟩
      obtain ⟨r, s2, e2, t2, b2⟩ := take_ok (wf := WF) takeP hk c' (pl := "lies") (by simp [plN]) S.nm.length (by have := hS.m5; omega)
      have g0 : ((wipeD env [11]).set 11 (some (eP y)))[0]? = some (some (.obj 2)) := by simp [wipeD, h0]
      have g3 : ((wipeD env [11]).set 11 (some (eP y)))[3]? = some (some S.d) := by simp [wipeD, h3]
      refine ⟨some (eN r), s2, ?_, row ++ [r], by simp, by simp [hrl], t2.cl, K'.trans t2.kp⟩
      simp [lcF, b510_4, Es.of, g0, g3, e2, eN])
  exact ⟨row, s', e, hl, c', K'⟩
end K93

/-! K93, mathematics 12: the first loop of the session. -/
namespace K93
open PySem Fw Mx PG
theorem set_side {k : Nat} (hk : 3 ≤ k) (b : Nat) (side : Nat) (env : En) {s : Sto} {ls : List LotR} (h : Ses s ls) (hls : ls.length = side) (h0 : env[0]? = some (some (.obj 2))) (h1 : env[1]? = some (some (.obj 3))) (h2 : env[2]? = some (some (.int side))) :
    ∃ (S : Stg) (s' : Sto), evE (CC PD WF k b) env (.ife (.or (.val (.cmp .eq (.var 2) (.int 0))) (.val (.cmp .eq (.call false 501 (Es.of [(.var 0), (.str "other"), (.int 2)])) (.int 0)))) (.call false 503 (Es.of [(.var 0), (.int 8)])) (.idx (.idx (.var 1) (.int 0)) (.int 1))) s = some (S.d, s') ∧ SG S ∧ Cl plN s' ∧ Keep s s' [0, 1, 2] := by
  have hset : ∀ s, Cl plN s → ∃ (S : Stg) (s' : Sto), run PD WF k 503 [.obj 2, .int 8] s = some (S.d, s') ∧ SG S ∧ Cl plN s' ∧ Keep s s' [0, 1, 2] := fun s hc => by
    obtain ⟨S, s', e, ho, c, K⟩ := setting_ok (wf := WF) (i := 503) takeP rfl (by decide +kernel) (show 2 ≤ k by omega) hc 8 (by omega) (by omega)
    exact ⟨S, s', e, sg_ok ho, c, K⟩
  by_cases c : side = 0
  · obtain ⟨S, s', e, hS, c', K'⟩ := hset s h.cl
    refine ⟨S, s', ?_, hS, c', K'⟩
    subst c
    simp [h0, h2, Es.of, e]
  · obtain ⟨r, s1, e1, t1, b1⟩ := take_ok (wf := WF) takeP (show 1 ≤ k by omega) h.cl (pl := "other") (by simp [plN]) 2 (by omega) 2
    have c' : ¬ (side : Int) = 0 := by omega
    by_cases hr : r = 0
    · obtain ⟨S, s', e, hS, c2, K'⟩ := hset s1 t1.cl
      refine ⟨S, s', ?_, hS, c2, t1.kp.trans K'⟩
      have e1' : Fw.run PD WF k 501 [.obj 2, .str "other", .int 2] s = some (.int 0, s1) := by rw [e1, hr]; rfl
      simp [h0, h2, Es.of, c, c', e1', e]
    · have hr' : ¬ (r : Int) = 0 := by omega
      cases ls with
      | nil => exact absurd hls (by simp; omega)
      | cons x r' =>
        have g := t1.kp.get h.lots (by simp)
        refine ⟨x.S, s1, ?_, (h.ok x (by simp)).2, t1.cl, t1.kp⟩
        have ga := atD_obj g 0
        have gb : ∀ s, atD s x.d (.int 1) = some x.S.d := fun s => rfl
        simp [h0, h1, h2, Es.of, c, c', e1, hr, hr', ga, gb]
theorem make {k : Nat} (hk : 3 ≤ k) (b : Nat) {s : Sto} (hs : Ses s []) :
    ∃ (x2 x3 x4 : Option D) (s' : Sto) (ls : List LotR), forE (CC PD WF k b) (.name 2) b510_5 ((List.range 2).map fun (n : Nat) => D.int (n : Int)) [some (.obj 2), some (.obj 3), none, none, none, none, none, none, none, none, none, none] s = some (.nx [some (.obj 2), some (.obj 3), x2, x3, x4, none, none, none, none, none, none, none] s') ∧ Ses s' ls ∧ ls.length = 2 ∧ ∀ x ∈ ls, x.sl.length = 1 := by
  obtain ⟨env', s', e, ls, x2, x3, x4, rfl, hS, hl, hv⟩ := forE_inv (C := CC PD WF k b) (g := .name 2) (b := b510_5) (env := [some (.obj 2), some (.obj 3), none, none, none, none, none, none, none, none, none, none]) (s := s) (fun (n : Nat) => D.int (n : Int))
    (fun p env s' => ∃ (ls : List LotR) (x2 x3 x4 : Option D), env = [some (.obj 2), some (.obj 3), x2, x3, x4, none, none, none, none, none, none, none] ∧ Ses s' ls ∧ ls.length = p.length ∧ ∀ x ∈ ls, x.sl.length = 1) (List.range 2) ⟨[], none, none, none, rfl, hs, rfl, by simp⟩ (by
      rintro p y q _ s' hl ⟨ls, x2, x3, x4, rfl, hS, hll, hv⟩
      obtain ⟨rfl, hy⟩ := range_at hl
      obtain ⟨sd, hsd⟩ : ∃ sd, sd = p.length := ⟨_, rfl⟩
      rw [← hsd] at hll ⊢
      obtain ⟨S, s1, e1, hSG, c1, K1⟩ := set_side hk b sd [some (.obj 2), some (.obj 3), some (.int sd), x3, x4, none, none, none, none, none, none, none] hS hll rfl rfl rfl
      have hS1 := hS.keep K1 c1
      obtain ⟨row, s2, e2, hrl, c2, K2⟩ := lies_row (k := k) (by omega) hSG b [some (.obj 2), some (.obj 3), some (.int sd), some S.d, x4, none, none, none, none, none, none, none] c1 rfl rfl rfl
      have hS2 := hS1.keep K2 c2
      have h3 := getO_lt hS2.lots
      refine ⟨[some (.obj 2), some (.obj 3), some (.int sd), x3, x4, none, none, none, none, none, none, none], [some (.obj 2), some (.obj 3), some (.int sd), some S.d, some (eM row), none, none, none, none, none, none, none], _, rfl, ?_, ls ++ [⟨s2.length, s2.length + 1, s2.length + 2, S, row, [List.range S.n]⟩], _, _, _, rfl, hS2.push hSG hrl, by simp [hll, hsd], ?_⟩
      · refine stA (e1 := [some (.obj 2), some (.obj 3), some (.int sd), some S.d, x4, none, none, none, none, none, none, none]) (s1 := s1) (by rw [exS_asg, e1]; rfl) ?_
        refine stA (e1 := [some (.obj 2), some (.obj 3), some (.int sd), some S.d, some (eM row), none, none, none, none, none, none, none]) (s1 := s2) (by simp [e2, eM]) ?_
        have gi : getO (s2 ++ [some (.ins "Table" [])]) s2.length = some (.ins "Table" []) := by simp
        have ei := t_init ext (k := k) (by omega) hSG.fine row gi
        have es : setO ((s2 ++ [some (Ob.ins "Table" [])]) ++ [some (.lst [eM (List.range S.n)])]) s2.length (some (Ob.ins "Table" (tabF S row (s2 ++ [some (Ob.ins "Table" [])]).length))) = s2 ++ [some (.ins "Table" (tabF S row (s2.length + 1))), some (.lst [eM (List.range S.n)])] := by
          rw [List.append_assoc, setO_app0]; simp
        rw [es] at ei
        have hb : evE (CC PD WF k b) [some (.obj 2), some (.obj 3), some (.int sd), some S.d, some (eM row), none, none, none, none, none, none, none] (.tup (Es.of [(.mk "Table" 14 (Es.of [(.var 3), (.var 4)])), (.var 3), (.var 4), (.newL (Es.of [(.tupRg (.b1 .len (.var 4)))]))])) s2 = some ((⟨s2.length, s2.length + 1, s2.length + 2, S, row, [List.range S.n]⟩ : LotR).d, s2 ++ [some (.ins "Table" (tabF S row (s2.length + 1))), some (.lst [eM (List.range S.n)]), some (.lst [eM (List.range S.n)])]) := by
          have l0 : ∀ s, lenD s (eM row) = some S.n := fun s => by rw [← hrl]; simp [eM]
          have hn : (S.n : Int) ≤ 1000000 := by have := hSG.n8; omega
          have rgn : D.tup (rgD (S.n : Int)) = eM (List.range S.n) := by rw [rg_nat]; rfl
          simp [Es.of, ei, l0, hn, rgn, LotR.d]
        have g3 := hS2.lots
        have g4 : getO (s2 ++ [some (.ins "Table" (tabF S row (s2.length + 1))), some (.lst [eM (List.range S.n)]), some (.lst [eM (List.range S.n)])]) 3 = some (.lst (ls.map LotR.d)) := getO_old g3
        have hll' : ls.length < 1000000 := by rw [hll]; omega
        simp only [exSs_cons, exS_expr, evE_app, evE_var, List.getElem?_cons_succ, List.getElem?_cons_zero, Option.bind_some, hb, g3, g4, List.length_map, szl_val]
        rw [if_pos hll']
        simp
      · intro x hx
        rcases List.mem_append.mp hx with hx | hx
        · exact hv x hx
        · simp only [List.mem_singleton] at hx; subst hx; rfl)
  exact ⟨x2, x3, x4, s', ls, e, hS, by rw [hl, List.length_range], hv⟩
end K93

/-! K93, mathematics 13: one lap of the session. -/
namespace K93
open PySem Fw Mx PG
theorem Ses.upd {s s' : Sto} {pre post : List LotR} {x : LotR} {sl' : List (List Nat)} (h : Ses s (pre ++ x :: post)) (K : Keep s s' [0, 1, 2, x.l, x.q]) (c : Cl plN s') (o : LotR.ok s' { x with sl := sl' }) : Ses s' (pre ++ { x with sl := sl' } :: post) := by
  have hge := h.ge
  have hnd := h.nd
  simp only [List.flatMap_append, List.flatMap_cons] at hnd hge
  have hxl : 4 ≤ x.l := hge _ (by simp [LotR.ix])
  have hxq : 4 ≤ x.q := hge _ (by simp [LotR.ix])
  have e : (pre ++ { x with sl := sl' } :: post).flatMap LotR.ix = (pre ++ x :: post).flatMap LotR.ix := by
    simp only [List.flatMap_append, List.flatMap_cons]; rfl
  refine ⟨c, ?_, fun y hy => ?_, by rw [e]; exact h.nd, by rw [e]; exact h.ge⟩
  · have := K.get h.lots (by simp; omega)
    rw [this, List.map_append, List.map_append, List.map_cons, List.map_cons]; rfl
  · have other : y ∈ pre ∨ y ∈ post → y.ok s' := fun hp => by
      have hy' : y ∈ pre ++ x :: post := by
        rcases hp with hp | hp
        · exact List.mem_append_left _ hp
        · exact List.mem_append_right _ (List.mem_cons_of_mem _ hp)
      have ny : ∀ n ∈ y.ix, n ∉ [0, 1, 2, x.l, x.q] := fun n hn hm => by
        have g4 : 4 ≤ n := h.ge n (List.mem_flatMap.mpr ⟨y, hy', hn⟩)
        have hx : n ∈ x.ix := by
          simp only [List.mem_cons, List.not_mem_nil, or_false] at hm
          simp only [LotR.ix, List.mem_cons, List.not_mem_nil, or_false]
          omega
        obtain ⟨d1, d2, d3⟩ := List.nodup_append.mp hnd
        obtain ⟨d4, d5, d6⟩ := List.nodup_append.mp d2
        rcases hp with hp | hp
        · exact d3 n (List.mem_flatMap.mpr ⟨y, hp, hn⟩) n (List.mem_append_left _ hx) rfl
        · exact d6 n hx n (List.mem_flatMap.mpr ⟨y, hp, hn⟩) rfl
      exact ⟨(h.ok y hy').1.keep K (ny _ (by simp [LotR.ix])) (ny _ (by simp [LotR.ix])) (ny _ (by simp [LotR.ix])), (h.ok y hy').2⟩
    rcases List.mem_append.mp hy with hy | hy
    · exact other (.inl hy)
    · rcases List.mem_cons.mp hy with rfl | hy
      · exact o
      · exact other (.inr hy)
theorem ix_ne {s : Sto} {ls : List LotR} (h : Ses s ls) {x : LotR} (hx : x ∈ ls) : x.a ≠ x.l ∧ x.a ≠ x.q ∧ x.l ≠ x.q := by
  obtain ⟨pre, post, rfl⟩ := List.append_of_mem hx
  have hnd := h.nd
  simp only [List.flatMap_append, List.flatMap_cons] at hnd
  obtain ⟨d1, d2, d3⟩ := List.nodup_append.mp hnd
  obtain ⟨d4, d5, d6⟩ := List.nodup_append.mp d2
  simp [LotR.ix] at d4
  omega
theorem r9_ok {k : Nat} (hk : 5 ≤ k) {S : Stg} {c : List Nat} (h : LayRes S (eM c) true) (b : Nat) (s : Sto) : (CC PD WF k b).run true 9 [S.d, eM c] s = some (.int (c.length : Nat), s) := by
  obtain ⟨k, rfl⟩ := Nat.exists_eq_add_of_le' (show 1 ≤ k by omega)
  refine pure_call (by simp [clL]) (s' := []) ?_ rfl b s
  rw [go9 ext]
  have e := fun b s => h.prog k b s (by omega)
  have l0 : ∀ s, lenD s (eM c) = some c.length := fun s => by simp [eM]
  simp [b9, Es.of, e, l0]
theorem at_m2 (sl : List (List Nat)) (c : List Nat) (h : sl ≠ []) : L2.atI ((sl ++ [c]).map eM) (-2) = some (eM (lastL sl)) := by
  have hp : 0 < sl.length := List.length_pos_iff.mpr h
  unfold L2.atI L2.ixN
  rw [if_neg (by omega), if_pos (by simp; omega)]
  show ((sl ++ [c]).map eM)[((-2 : Int) + (((sl ++ [c]).map eM).length : Nat)).toNat]? = _
  have e : ((-2 : Int) + (((sl ++ [c]).map eM).length : Nat)).toNat = sl.length - 1 := by simp; omega
  rw [e, List.map_append, List.getElem?_append_left (by rw [List.length_map]; omega)]
  exact last_get h
/-- what stands behind a deed is looked at -/
def TailB : Ss := .cons (.ife (.or (.not (.tru (.call false 509 (Es.of [(.var 6), (.var 4), (.var 7)])))) (.and (.val (.cmp .eq (.bin .mod (.var 5) (.int 8)) (.int 7))) (.not (.tru (.call false 509 (Es.of [(.idx (.idx (.var 1) (.int 0)) (.int 0)), (.idx (.idx (.var 1) (.int 0)) (.int 2)), (.idx (.idx (.var 1) (.int 0)) (.int 3))])))))) (.cons (.ret (.bl false)) (.nil)) (.nil)) (.cons (.ife (.and (.val (.cmp .eq (.idx (.var 8) (.int 0)) (.str "lay"))) (.not (.tru (.call true 502 (Es.of [(.call true 8 (Es.of [(.var 3), (.idx (.var 8) (.int 1))])), (.not (.var 10))]))))) (.cons (.ret (.bl false)) (.nil)) (.nil)) (.cons (.ife (.and (.not (.tru (.var 10))) (.and (.val (.cmp .eq (.idx (.var 8) (.int 0)) (.str "lay"))) (.not (.tru (.call true 502 (Es.of [(.tup (Es.of [(.call true 9 (Es.of [(.var 3), (.idx (.var 8) (.int 1))])), (.call true 12 (Es.of [(.idx (.var 7) (.int (-2))), (.idx (.var 8) (.int 1))])), (.call true 11 (Es.of [(.var 4), (.idx (.var 7) (.int (-1)))]))])), (.tup (Es.of [(.b1 .len (.var 4)), (.idx (.var 7) (.int (-1))), (.meth "Table" "row" 20 (.var 6) .nil)]))])))))) (.cons (.ret (.bl false)) (.nil)) (.nil)) (.nil)))
theorem lap_stands {k : Nat} (hk : 5 ≤ k) (b : Nat) {s : Sto} {ls : List LotR} (h : Ses s ls) (hne : ls ≠ []) {x : LotR} (hx : x ∈ ls) (lap : Nat) (env : En) (h1 : env[1]? = some (some (.obj 3))) (h4 : env[4]? = some (some (eM x.row))) (h5 : env[5]? = some (some (.int lap))) (h6 : env[6]? = some (some (.obj x.a))) (h7 : env[7]? = some (some (.obj x.q))) :
    evT (CC PD WF k b) env (.or (.not (.tru (.call false 509 (Es.of [(.var 6), (.var 4), (.var 7)])))) (.and (.val (.cmp .eq (.bin .mod (.var 5) (.int 8)) (.int 7))) (.not (.tru (.call false 509 (Es.of [(.idx (.idx (.var 1) (.int 0)) (.int 0)), (.idx (.idx (.var 1) (.int 0)) (.int 2)), (.idx (.idx (.var 1) (.int 0)) (.int 3))])))))) s = some (false, s) := by
  have e1 := stands (k := k) (by omega) (h.ok x hx).2 (h.ok x hx).1
  cases ls with
  | nil => exact absurd rfl hne
  | cons y r =>
    have e2 := stands (k := k) (by omega) (h.ok y (by simp)).2 (h.ok y (by simp)).1
    have ga := atD_obj h.lots 0
    have g0 : ∀ s, atD s y.d (.int 0) = some (.obj y.a) := fun s => rfl
    have g2 : ∀ s, atD s y.d (.int 2) = some (eM y.row) := fun s => rfl
    have g3 : ∀ s, atD s y.d (.int 3) = some (.obj y.q) := fun s => rfl
    have hm := modI lap 8 (by decide)
    by_cases c : (lap : Int).fmod 8 = 7
    · simp [h1, h4, h5, h6, h7, Es.of, e1, e2, hm, c, ga, g0, g2, g3]
    · simp [h1, h4, h5, h6, h7, Es.of, e1, hm, c]
theorem tail_other {k : Nat} (hk : 5 ≤ k) (b : Nat) {s : Sto} {ls : List LotR} (h : Ses s ls) (hne : ls ≠ []) {x : LotR} (hx : x ∈ ls) (lap : Nat) {dd due : D} {R : Bool} {w : Str} (h0 : ∀ s, atD s dd (.int 0) = some (.str w)) (hw : w ≠ "lay") (x0 x2 x11 : Option D) :
    exSs (CC PD WF k b) TailB [x0, some (.obj 3), x2, some x.S.d, some (eM x.row), some (.int lap), some (.obj x.a), some (.obj x.q), some dd, some due, some (.bl R), x11] s = some (.nx [x0, some (.obj 3), x2, some x.S.d, some (eM x.row), some (.int lap), some (.obj x.a), some (.obj x.q), some dd, some due, some (.bl R), x11] s) := by
  have e := lap_stands hk b h hne hx lap [x0, some (.obj 3), x2, some x.S.d, some (eM x.row), some (.int lap), some (.obj x.a), some (.obj x.q), some dd, some due, some (.bl R), x11] rfl rfl rfl rfl rfl
  unfold TailB
  rw [exSs_cons, exS_ife, e]
  cases R <;> simp [h0, hw]
theorem tail_no {k : Nat} (hk : 5 ≤ k) (b : Nat) {s : Sto} {ls : List LotR} (h : Ses s ls) (hne : ls ≠ []) {x : LotR} (hx : x ∈ ls) (lap : Nat) {d due : D} (hr : LayRes x.S d false) (x0 x2 x11 : Option D) :
    exSs (CC PD WF k b) TailB [x0, some (.obj 3), x2, some x.S.d, some (eM x.row), some (.int lap), some (.obj x.a), some (.obj x.q), some (dLay d), some due, some (.bl true), x11] s = some (.nx [x0, some (.obj 3), x2, some x.S.d, some (eM x.row), some (.int lap), some (.obj x.a), some (.obj x.q), some (dLay d), some due, some (.bl true), x11] s) := by
  have e := lap_stands hk b h hne hx lap [x0, some (.obj 3), x2, some x.S.d, some (eM x.row), some (.int lap), some (.obj x.a), some (.obj x.q), some (dLay d), some due, some (.bl true), x11] rfl rfl rfl rfl rfl
  have d0 : ∀ s, atD s (dLay d) (.int 0) = some (.str "lay") := fun s => rfl
  have d1 : ∀ s, atD s (dLay d) (.int 1) = some d := fun s => rfl
  have e8 := fun s => hr.prog k b s (by omega)
  have e2 := fun s => same k (by omega) (d := .bl false) rfl (by simp [sz]) b s
  unfold TailB
  rw [exSs_cons, exS_ife, e]
  simp [d0, d1, Es.of, e8, e2]
theorem tail_yes {k : Nat} (hk : 6 ≤ k) (b : Nat) {s : Sto} {ls : List LotR} (h : Ses s ls) (hne : ls ≠ []) {x : LotR} (hx : x ∈ ls) (lap : Nat) {c0 : List Nat} {due : D} {sl0 : List (List Nat)} (hsl : x.sl = sl0 ++ [comp (lastL sl0) c0]) (hs0 : sl0 ≠ []) (hr : LayRes x.S (eM c0) true) (hg : Good x.S c0) (x0 x2 x11 : Option D) :
    exSs (CC PD WF k b) TailB [x0, some (.obj 3), x2, some x.S.d, some (eM x.row), some (.int lap), some (.obj x.a), some (.obj x.q), some (dLay (eM c0)), some due, some (.bl false), x11] s = some (.nx [x0, some (.obj 3), x2, some x.S.d, some (eM x.row), some (.int lap), some (.obj x.a), some (.obj x.q), some (dLay (eM c0)), some due, some (.bl false), x11] s) := by
  have e := lap_stands (k := k) (by omega) b h hne hx lap [x0, some (.obj 3), x2, some x.S.d, some (eM x.row), some (.int lap), some (.obj x.a), some (.obj x.q), some (dLay (eM c0)), some due, some (.bl false), x11] rfl rfl rfl rfl rfl
  obtain ⟨L, hS⟩ := h.ok x hx
  have hn8 := hS.n8
  have d0 : ∀ s, atD s (dLay (eM c0)) (.int 0) = some (.str "lay") := fun s => rfl
  have d1 : ∀ s, atD s (dLay (eM c0)) (.int 1) = some (eM c0) := fun s => rfl
  have e8 := fun s => hr.prog k b s (by omega)
  have e9 := fun s => r9_ok (k := k) (by omega) hr b s
  have e2 := fun s => same k (by omega) (d := .bl true) rfl (by simp [sz]) b s
  have g0 : Good x.S (lastL sl0) := L.good _ (by rw [hsl]; exact List.mem_append_left _ (last_mem hs0))
  have e12 := fun s => r12 ext b s (k := k) (by omega) (a := lastL sl0) (c := c0) (by rw [hg.1]; omega) (fun i hi => by rw [g0.1]; exact hg.2 i hi)
  have gl := L.good _ (last_mem L.tab.ne)
  have e11 := fun s => r11 ext b s (k := k) (by omega) (a := x.row) (c := lastL x.sl) (by rw [gl.1]; omega) (comp_row L)
  have em1 := obj_last L.st L.tab.ne
  have em2 : atD s (.obj x.q) (.int (-2)) = some (eM (lastL sl0)) := by rw [atD_obj L.st, hsl]; exact at_m2 _ _ hs0
  have er := t_row ext (k := k) (by omega) L.tab (by rw [gl.1]; omega) (comp_row L)
  have ell : lastL x.sl = comp (lastL sl0) c0 := by rw [hsl]; simp [lastL]
  have l0 : ∀ s, lenD s (eM x.row) = some x.S.n := fun s => by rw [← L.rl]; simp [eM]
  have e3 := fun s => same k (by omega) (d := .tup [.int (x.S.n : Nat), eM (lastL x.sl), eM (comp x.row (lastL x.sl))]) (by simp [Mx.plain, plainL, plain_M]) (by
    simp only [sz, szL, sz_M]
    have : (comp x.row (lastL x.sl)).length = (lastL x.sl).length := by simp [comp]
    rw [this, gl.1]; omega) b s
  rw [hg.1] at e9
  rw [← ell] at e12
  unfold TailB
  rw [exSs_cons, exS_ife, e]
  simp [d0, d1, Es.of, e8, e2, e9, em1, em2, e12, e11, l0, L.tab.ins, er, e3]
end K93

/-! K93, mathematics 14: a lap; the session's second loop. -/
namespace K93
open PySem Fw Mx PG
def S5 : Fw.S := .ife (.not (.tru (.call true 502 (Es.of [(.call false 507 (Es.of [(.var 6), (.var 8)])), (.ife (.tru (.var 10)) (.var 9) (.tup (Es.of [(.str "told"), .non])))])))) (.cons (.ret (.bl false)) (.nil)) (.nil)
def S6 : Fw.S := .ife (.and (.val (.cmp .eq (.idx (.var 8) (.int 0)) (.str "back"))) (.not (.tru (.var 10)))) (.cons (.expr (.pop (.var 7))) (.nil)) (.cons (.ife (.not (.tru (.var 10))) (.cons (.expr (.app (.var 7) (.var 9))) (.nil)) (.nil)) (.nil))
theorem b510_3_eq : b510_3 = .cons (.asg (.tup (Gs.of [(.name 6), (.name 3), (.name 4), (.name 7)])) (.idx (.var 1) (.call false 501 (Es.of [(.var 0), (.str "which"), (.int 2)])))) (.cons (.asg (.name 8) (.call false 508 (Es.of [(.var 0), (.var 3)]))) (.cons (.asg (.name 9) (.call false 506 (Es.of [(.var 3), (.var 7), (.var 8)]))) (.cons (.asg (.name 10) (.and (.cmp .notN (.var 9) .non) (.isI (.idx (.var 9) (.int 0)) .str))) (.cons S5 (.cons S6 TailB))))) := rfl
theorem dd_head {S : Stg} {dd : D} (h : DeedOk S dd) : ∃ w, (∀ s, atD s dd (.int 0) = some (.str w)) := by
  cases h with
  | layN _ _ _ => exact ⟨_, fun s => rfl⟩
  | layY _ _ => exact ⟨_, fun s => rfl⟩
  | ex _ _ => exact ⟨_, fun s => rfl⟩
  | turn _ => exact ⟨_, fun s => rfl⟩
  | back => exact ⟨_, fun s => rfl⟩
theorem lap_ok {k : Nat} (hk : 9 ≤ k) (b : Nat) {s : Sto} {ls : List LotR} (h : Ses s ls) (hl2 : ls.length = 2) (lap : Nat) (hfew : ∀ x ∈ ls, x.sl.length ≤ 90) (x2 x3 x4 x6 x7 x8 x9 x10 x11 : Option D) :
    ∃ (x3' x4' x6' x7' x8' x9' x10' : Option D) (s' : Sto) (ls' : List LotR), exSs (CC PD WF k b) b510_3 [some (.obj 2), some (.obj 3), x2, x3, x4, some (.int lap), x6, x7, x8, x9, x10, x11] s = some (.nx [some (.obj 2), some (.obj 3), x2, x3', x4', some (.int lap), x6', x7', x8', x9', x10', x11] s') ∧ Ses s' ls' ∧ ls'.length = 2 ∧ (∀ m, (∀ x ∈ ls, x.sl.length ≤ m) → ∀ x ∈ ls', x.sl.length ≤ m + 1) := by
  obtain ⟨i, s1, e1, t1, b1⟩ := take_ok (wf := WF) takeP (show 1 ≤ k by omega) h.cl (pl := "which") (by simp [plN]) 2 (by omega) 2
  have hi : i < ls.length := by omega
  have h1 := h.keep t1.kp t1.cl
  obtain ⟨x, hx⟩ : ∃ x, x = ls[i] := ⟨_, rfl⟩
  have hxm : x ∈ ls := by rw [hx]; exact List.getElem_mem hi
  have hS := (h.ok x hxm).2
  obtain ⟨dd, s2, e2, hdd, c2, K2⟩ := deed_ok (k := k) (by omega) hS t1.cl
  have h2 := h1.keep K2 c2
  obtain ⟨hal, haq, hlq⟩ := ix_ne h hxm
  obtain ⟨due, s3, told, s4, sl', e3, K3, e4, K4, T4, dn⟩ := deed_step (k := k) (by omega) hS (h2.ok x hxm).1 hal hdd
  have c4 : Cl plN s4 := by
    have hge := h2.ge
    have hxl : 4 ≤ x.l := hge _ (List.mem_flatMap.mpr ⟨x, hxm, by simp [LotR.ix]⟩)
    exact (c2.keep K3 (by simp) (by simp) (by simp)).keep K4 (by simp; omega) (by simp; omega) (by simp; omega)
  have K24 : Keep s2 s4 [x.l] := (K3.mono (T' := [x.l]) (by simp)).trans K4
  have gq : getO s4 x.q = some (.lst (x.sl.map eM)) := K24.get (h2.ok x hxm).1.st (by simp; omega)
  have hq4 : 4 ≤ x.q := h2.ge _ (List.mem_flatMap.mpr ⟨x, hxm, by simp [LotR.ix]⟩)
  have hxf := hfew x hxm
  obtain ⟨pre, post, hsplit⟩ := List.append_of_mem hxm
  have g1 := atD_obj h1.lots (i : Int)
  have g1' : (ls.map LotR.d)[i]? = some x.d := by rw [List.getElem?_map, List.getElem?_eq_getElem hi, hx]; rfl
  obtain ⟨w, hw⟩ := dd_head hdd
  -- up to the fourth
  have head : ∀ (R : Bool) (r : Option Rs), (evE (CC PD WF k b) [some (.obj 2), some (.obj 3), x2, some x.S.d, some (eM x.row), some (.int lap), some (.obj x.a), some (.obj x.q), some dd, some due, x10, x11] (.and (.cmp .notN (.var 9) .non) (.isI (.idx (.var 9) (.int 0)) .str)) s3 = some (.bl R, s3)) →
      exSs (CC PD WF k b) (.cons S5 (.cons S6 TailB)) [some (.obj 2), some (.obj 3), x2, some x.S.d, some (eM x.row), some (.int lap), some (.obj x.a), some (.obj x.q), some dd, some due, some (.bl R), x11] s3 = r →
      exSs (CC PD WF k b) b510_3 [some (.obj 2), some (.obj 3), x2, x3, x4, some (.int lap), x6, x7, x8, x9, x10, x11] s = r := by
    intro R r hR hr
    rw [b510_3_eq]
    refine stA (e1 := [some (.obj 2), some (.obj 3), x2, some x.S.d, some (eM x.row), some (.int lap), some (.obj x.a), some (.obj x.q), x8, x9, x10, x11]) (s1 := s1) ?_ ?_
    · have gd : asgG (.tup (Gs.of [(.name 6), (.name 3), (.name 4), (.name 7)])) x.d [some (.obj 2), some (.obj 3), x2, x3, x4, some (.int lap), x6, x7, x8, x9, x10, x11] = some [some (.obj 2), some (.obj 3), x2, some x.S.d, some (eM x.row), some (.int lap), some (.obj x.a), some (.obj x.q), x8, x9, x10, x11] := rfl
      rw [atI_ofNat, g1'] at g1
      simp only [exS_asg, evE_idx, evE_var, List.getElem?_cons_succ, List.getElem?_cons_zero, Option.bind_some, evE_call, Es.of, evEs_cons, evEs_nil, evE_str, evE_int, Option.map_some, own_CC, e1, g1, gd]
    refine stA (e1 := [some (.obj 2), some (.obj 3), x2, some x.S.d, some (eM x.row), some (.int lap), some (.obj x.a), some (.obj x.q), some dd, x9, x10, x11]) (s1 := s2) (by simp [Es.of, e2]) ?_
    refine stA (e1 := [some (.obj 2), some (.obj 3), x2, some x.S.d, some (eM x.row), some (.int lap), some (.obj x.a), some (.obj x.q), some dd, some due, x10, x11]) (s1 := s3) (by simp [Es.of, e3]) ?_
    refine stA (e1 := [some (.obj 2), some (.obj 3), x2, some x.S.d, some (eM x.row), some (.int lap), some (.obj x.a), some (.obj x.q), some dd, some due, some (.bl R), x11]) (s1 := s3) (by rw [exS_asg, hR]; rfl) hr
  have lot' : ∀ s', Keep s4 s' [x.q] → getO s' x.q = some (.lst (sl'.map eM)) → (∀ c ∈ sl', Good x.S c) → sl'.length ≤ 91 → Cl plN s' → Ses s' (pre ++ { x with sl := sl' } :: post) := by
    intro s' K hg hgood hlen hc
    have hsp := h2
    rw [hsplit] at hsp
    refine hsp.upd ((K24.mono (T' := [0, 1, 2, x.l, x.q]) (fun n hn => .inl (by simp at hn ⊢; omega))).trans (K.mono (fun n hn => .inl (by simp at hn ⊢; omega)))) hc ⟨⟨T4.keep K (by simp; omega) (by simp; omega), hg, hgood, (h2.ok x hxm).1.rl, by show sl'.length ≤ 100; omega⟩, hS⟩
  have few' : ∀ ls' : List LotR, ls' = pre ++ { x with sl := sl' } :: post → sl'.length ≤ x.sl.length + 1 → ls'.length = 2 ∧ (∀ m, (∀ x ∈ ls, x.sl.length ≤ m) → ∀ x ∈ ls', x.sl.length ≤ m + 1) := by
    rintro ls' rfl hlen
    refine ⟨by rw [hsplit] at hl2; simpa using hl2, fun m hm y hy => ?_⟩
    rcases List.mem_append.mp hy with hy | hy
    · have := hm y (by rw [hsplit]; exact List.mem_append_left _ hy); omega
    · rcases List.mem_cons.mp hy with rfl | hy
      · have := hm x hxm
        show sl'.length ≤ m + 1
        omega
      · have := hm y (by rw [hsplit]; exact List.mem_append_right _ (List.mem_cons_of_mem _ hy)); omega
  have xin : ({ x with sl := sl' } : LotR) ∈ pre ++ { x with sl := sl' } :: post := by simp
  have hne' : pre ++ ({ x with sl := sl' } : LotR) :: post ≠ [] := by simp
  have goodx := (h2.ok x hxm).1.good
  have e4' : Fw.run PD WF k 507 [.obj x.a, dd] s3 = some (told, s4) := e4
  cases dn with
  | err herr heq hno =>
    subst heq
    obtain ⟨y, r, hy, hyp, hyz⟩ := herr
    have hR : evE (CC PD WF k b) [some (.obj 2), some (.obj 3), x2, some x.S.d, some (eM x.row), some (.int lap), some (.obj x.a), some (.obj x.q), some dd, some told, x10, x11] (.and (.cmp .notN (.var 9) .non) (.isI (.idx (.var 9) (.int 0)) .str)) s3 = some (.bl true, s3) := by
      rw [hy]; simp
    have hsm := same k (by omega) hyp (by omega) b s4
    have S' := lot' s4 (.refl _ _) gq goodx (by omega) c4
    have st5 : exS (CC PD WF k b) S5 [some (.obj 2), some (.obj 3), x2, some x.S.d, some (eM x.row), some (.int lap), some (.obj x.a), some (.obj x.q), some dd, some told, some (.bl true), x11] s3 = some (.nx [some (.obj 2), some (.obj 3), x2, some x.S.d, some (eM x.row), some (.int lap), some (.obj x.a), some (.obj x.q), some dd, some told, some (.bl true), x11] s4) := by
      simp [S5, Es.of, e4', hsm]
    have st6 : exS (CC PD WF k b) S6 [some (.obj 2), some (.obj 3), x2, some x.S.d, some (eM x.row), some (.int lap), some (.obj x.a), some (.obj x.q), some dd, some told, some (.bl true), x11] s4 = some (.nx [some (.obj 2), some (.obj 3), x2, some x.S.d, some (eM x.row), some (.int lap), some (.obj x.a), some (.obj x.q), some dd, some told, some (.bl true), x11] s4) := by
      by_cases hb : w = "back" <;> simp [S6, hw, hb]
    obtain ⟨f1, f2⟩ := few' _ rfl (by omega)
    refine ⟨some x.S.d, some (eM x.row), some (.obj x.a), some (.obj x.q), some dd, some told, some (.bl true), s4, _, head true _ hR (stA st5 (stA st6 ?_)), S', f1, f2⟩
    by_cases hlay : ∃ d, dd = dLay d
    · obtain ⟨d, rfl⟩ := hlay
      exact tail_no (k := k) (by omega) b S' hne' xin lap (hno d rfl) _ _ _
    · refine tail_other (k := k) (by omega) b S' hne' xin lap hw (fun hwl => ?_) _ _ _
      subst hwl
      cases hdd with
      | layN _ _ _ => exact hlay ⟨_, rfl⟩
      | layY _ _ => exact hlay ⟨_, rfl⟩
      | ex _ _ => have := hw []; simp [dEx] at this
      | turn _ => have := hw []; simp [dTurn] at this
      | back => have := hw []; simp [dBack] at this
  | @lay c c0 hdu hto hgc hg0 hdl hlr hcc =>
    have hwb : w ≠ "back" := fun e => by
      subst e
      have := hw []
      rw [hdl] at this
      simp [dLay] at this
    subst hdu hto
    have hcl := hgc.1
    have hn1 := hS.n1
    have n1 : evCmp .notN (eM c) .non = some true := rfl
    have a0 : ∀ s, atD s (eM c) (.int 0) = some (eN (getn c 0)) := fun s => by show L2.atI (c.map eN) _ = _; rw [atI_0, List.getElem?_map, getn_some (by omega)]; rfl
    have i0 : ∀ s, isID s (eN (getn c 0)) .str = some false := fun s => rfl
    have hR : evE (CC PD WF k b) [some (.obj 2), some (.obj 3), x2, some x.S.d, some (eM x.row), some (.int lap), some (.obj x.a), some (.obj x.q), some dd, some (eM c), x10, x11] (.and (.cmp .notN (.var 9) .non) (.isI (.idx (.var 9) (.int 0)) .str)) s3 = some (.bl false, s3) := by
      simp [n1, a0, i0]
    have hsm : (CC PD WF k b).run true 502 [.tup [.str "told", .non], .tup [.str "told", .non]] s4 = _ := same k (by omega) (d := tTold) (by decide +kernel) (by decide +kernel) b s4
    have hq := getO_lt gq
    have S' := lot' (setO s4 x.q (some (.lst ((x.sl ++ [c]).map eM)))) (Keep.set _ _ _ _ (.inl (by simp))) (getO_set _ _ hq) (fun y hy => by
      rcases List.mem_append.mp hy with hy | hy
      · exact goodx y hy
      · simp only [List.mem_singleton] at hy; subst hy; exact hgc) (by simp; omega) (c4.set (by omega) _)
    have e4'' : Fw.run PD WF k 507 [.obj x.a, dd] s3 = some (.tup [.str "told", .non], s4) := e4
    have st5 : exS (CC PD WF k b) S5 [some (.obj 2), some (.obj 3), x2, some x.S.d, some (eM x.row), some (.int lap), some (.obj x.a), some (.obj x.q), some dd, some (eM c), some (.bl false), x11] s3 = some (.nx [some (.obj 2), some (.obj 3), x2, some x.S.d, some (eM x.row), some (.int lap), some (.obj x.a), some (.obj x.q), some dd, some (eM c), some (.bl false), x11] s4) := by
      simp [S5, Es.of, e4'', hsm]
    have hxl : x.sl.length < 1000000 := by omega
    have st6 : exS (CC PD WF k b) S6 [some (.obj 2), some (.obj 3), x2, some x.S.d, some (eM x.row), some (.int lap), some (.obj x.a), some (.obj x.q), some dd, some (eM c), some (.bl false), x11] s4 = some (.nx [some (.obj 2), some (.obj 3), x2, some x.S.d, some (eM x.row), some (.int lap), some (.obj x.a), some (.obj x.q), some dd, some (eM c), some (.bl false), x11] (setO s4 x.q (some (.lst ((x.sl ++ [c]).map eM))))) := by
      simp [S6, hw, hwb, gq, hxl]
    obtain ⟨f1, f2⟩ := few' _ rfl (by simp)
    refine ⟨some x.S.d, some (eM x.row), some (.obj x.a), some (.obj x.q), some dd, some (eM c), some (.bl false), _, _, head false _ hR (stA st5 (stA st6 ?_)), S', f1, f2⟩
    subst hdl hcc
    exact tail_yes (k := k) (by omega) b S' hne' xin lap rfl (h2.ok x hxm).1.tab.ne hlr hg0 _ _ _
  | @put c y r hdu hto hgc hdl hnl hnb =>
    have hwy : w = y := by
      have := hw []
      rw [hdl] at this
      simp at this
      exact this.symm
    have hwb : w ≠ "back" := by rw [hwy]; exact hnb
    subst hdu hto
    have hcl := hgc.1
    have hn1 := hS.n1
    have n1 : evCmp .notN (eM c) .non = some true := rfl
    have a0 : ∀ s, atD s (eM c) (.int 0) = some (eN (getn c 0)) := fun s => by show L2.atI (c.map eN) _ = _; rw [atI_0, List.getElem?_map, getn_some (by omega)]; rfl
    have i0 : ∀ s, isID s (eN (getn c 0)) .str = some false := fun s => rfl
    have hR : evE (CC PD WF k b) [some (.obj 2), some (.obj 3), x2, some x.S.d, some (eM x.row), some (.int lap), some (.obj x.a), some (.obj x.q), some dd, some (eM c), x10, x11] (.and (.cmp .notN (.var 9) .non) (.isI (.idx (.var 9) (.int 0)) .str)) s3 = some (.bl false, s3) := by
      simp [n1, a0, i0]
    have hsm : (CC PD WF k b).run true 502 [.tup [.str "told", .non], .tup [.str "told", .non]] s4 = _ := same k (by omega) (d := tTold) (by decide +kernel) (by decide +kernel) b s4
    have hq := getO_lt gq
    have S' := lot' (setO s4 x.q (some (.lst ((x.sl ++ [c]).map eM)))) (Keep.set _ _ _ _ (.inl (by simp))) (getO_set _ _ hq) (fun y hy => by
      rcases List.mem_append.mp hy with hy | hy
      · exact goodx y hy
      · simp only [List.mem_singleton] at hy; subst hy; exact hgc) (by simp; omega) (c4.set (by omega) _)
    have e4'' : Fw.run PD WF k 507 [.obj x.a, dd] s3 = some (.tup [.str "told", .non], s4) := e4
    have st5 : exS (CC PD WF k b) S5 [some (.obj 2), some (.obj 3), x2, some x.S.d, some (eM x.row), some (.int lap), some (.obj x.a), some (.obj x.q), some dd, some (eM c), some (.bl false), x11] s3 = some (.nx [some (.obj 2), some (.obj 3), x2, some x.S.d, some (eM x.row), some (.int lap), some (.obj x.a), some (.obj x.q), some dd, some (eM c), some (.bl false), x11] s4) := by
      simp [S5, Es.of, e4'', hsm]
    have hxl : x.sl.length < 1000000 := by omega
    have st6 : exS (CC PD WF k b) S6 [some (.obj 2), some (.obj 3), x2, some x.S.d, some (eM x.row), some (.int lap), some (.obj x.a), some (.obj x.q), some dd, some (eM c), some (.bl false), x11] s4 = some (.nx [some (.obj 2), some (.obj 3), x2, some x.S.d, some (eM x.row), some (.int lap), some (.obj x.a), some (.obj x.q), some dd, some (eM c), some (.bl false), x11] (setO s4 x.q (some (.lst ((x.sl ++ [c]).map eM))))) := by
      simp [S6, hw, hwb, gq, hxl]
    obtain ⟨f1, f2⟩ := few' _ rfl (by simp)
    refine ⟨some x.S.d, some (eM x.row), some (.obj x.a), some (.obj x.q), some dd, some (eM c), some (.bl false), _, _, head false _ hR (stA st5 (stA st6 ?_)), S', f1, f2⟩
    exact tail_other (k := k) (by omega) b S' hne' xin lap hw (by rw [hwy]; exact hnl) _ _ _
  | back hdu hto hdl hlen1 =>
    subst hdu hto
    have hwb : w = "back" := by
      have := hw []
      rw [hdl] at this
      simp [dBack] at this
      exact this.symm
    have hR : evE (CC PD WF k b) [some (.obj 2), some (.obj 3), x2, some x.S.d, some (eM x.row), some (.int lap), some (.obj x.a), some (.obj x.q), some dd, some .non, x10, x11] (.and (.cmp .notN (.var 9) .non) (.isI (.idx (.var 9) (.int 0)) .str)) s3 = some (.bl false, s3) := by simp
    have hsm : (CC PD WF k b).run true 502 [.tup [.str "told", .non], .tup [.str "told", .non]] s4 = _ := same k (by omega) (d := tTold) (by decide +kernel) (by decide +kernel) b s4
    have hq := getO_lt gq
    have S' := lot' (setO s4 x.q (some (.lst (x.sl.dropLast.map eM)))) (Keep.set _ _ _ _ (.inl (by simp))) (getO_set _ _ hq) (fun y hy => goodx y ((List.dropLast_sublist _).subset hy)) (by simp; omega) (c4.set (by omega) _)
    have e4'' : Fw.run PD WF k 507 [.obj x.a, dd] s3 = some (.tup [.str "told", .non], s4) := e4
    have st5 : exS (CC PD WF k b) S5 [some (.obj 2), some (.obj 3), x2, some x.S.d, some (eM x.row), some (.int lap), some (.obj x.a), some (.obj x.q), some dd, some .non, some (.bl false), x11] s3 = some (.nx [some (.obj 2), some (.obj 3), x2, some x.S.d, some (eM x.row), some (.int lap), some (.obj x.a), some (.obj x.q), some dd, some .non, some (.bl false), x11] s4) := by
      simp [S5, Es.of, e4'', hsm]
    have st6 : exS (CC PD WF k b) S6 [some (.obj 2), some (.obj 3), x2, some x.S.d, some (eM x.row), some (.int lap), some (.obj x.a), some (.obj x.q), some dd, some .non, some (.bl false), x11] s4 = some (.nx [some (.obj 2), some (.obj 3), x2, some x.S.d, some (eM x.row), some (.int lap), some (.obj x.a), some (.obj x.q), some dd, some .non, some (.bl false), x11] (setO s4 x.q (some (.lst (x.sl.dropLast.map eM))))) := by
      have hla := last_get (h2.ok x hxm).1.tab.ne
      simp [S6, hw, hwb, gq, hla]
    obtain ⟨f1, f2⟩ := few' _ rfl (by simp; omega)
    refine ⟨some x.S.d, some (eM x.row), some (.obj x.a), some (.obj x.q), some dd, some .non, some (.bl false), _, _, head false _ hR (stA st5 (stA st6 ?_)), S', f1, f2⟩
    exact tail_other (k := k) (by omega) b S' hne' xin lap hw (by rw [hwb]; simp) _ _ _
end K93

/-! K93, mathematics 15: the law's hand. -/
namespace K93
open PySem Fw Mx PG
section
variable {k : Nat} {s : Sto} {S : Stg} {row : List Nat} {sl : List (List Nat)} {a l : Nat}
theorem h_turn (hk : 4 ≤ k) (hS : S.fine) (T : Tab s a l S row sl) (hal : a ≠ l) (hf : sl.length ≤ 100) (t : Nat) (m : Int) (ht : t < S.tr.length) (hm : S.man t ∈ (["ring", "turn"] : List Str)) (hl : (lastL sl).length = S.n) (c : List Nat) (hc : comp (lastL sl) (withP S (turnP S t (turnL S t m))) = c) :
    ∃ s', runX PD WF k 18 [.obj a, .int t, .int m] s = some (.ok .non, s') ∧ Tab s' a l S row (sl ++ [c]) := by
  obtain ⟨o, e⟩ := t_turn ext hk hS T ht m hm hl
  rw [hc] at e
  exact ⟨_, e, tab_set T hal _ (by simp) (by simp; omega) _⟩
theorem h_ex (hk : 3 ≤ k) (hS : S.fine) (T : Tab s a l S row sl) (hal : a ≠ l) (hf : sl.length ≤ 100) (i j : Nat) (hi : i < S.n) (hj : j < S.n) (h : S.tray i = S.tray j) (ht : S.tray i < S.tr.length) (hm : S.man (S.tray i) = "any") (hl : (lastL sl).length = S.n) (c : List Nat) (hc : comp (lastL sl) (swapN S.n i j) = c) :
    ∃ s', runX PD WF k 17 [.obj a, .int i, .int j] s = some (.ok .non, s') ∧ Tab s' a l S row (sl ++ [c]) := by
  obtain ⟨o, e⟩ := t_ex ext hk hS T hi hj h ht hm hl
  rw [hc] at e
  exact ⟨_, e, tab_set T hal _ (by simp) (by simp; omega) _⟩
theorem h_back (hk : 1 ≤ k) (T : Tab s a l S row sl) (hal : a ≠ l) (hf : sl.length ≤ 100) (h1 : 1 < sl.length) : ∃ s', runX PD WF k 19 [.obj a] s = some (.ok .non, s') ∧ Tab s' a l S row sl.dropLast := by
  refine ⟨_, t_back ext hk T (by omega), ?_⟩
  have := tab_set T hal sl.dropLast (by intro z; have := congrArg List.length z; simp at this; omega) (by simp; omega) []
  rwa [List.append_nil] at this
theorem h_lay (hk : 2 ≤ k) (T : Tab s a l S row sl) (hal : a ≠ l) (hf : sl.length ≤ 100) {c0 : List Nat} (hc : c0.length ≤ 1000) (h : ∀ i ∈ c0, i < (lastL sl).length) (h8 : ∀ b s, (CC PD WF k b).run true 8 [S.d, eM c0] s = some (.bl true, s)) (c : List Nat) (he : comp (lastL sl) c0 = c) :
    ∃ s', runX PD WF (k + 1) 16 [.obj a, eM c0] s = some (.ok .non, s') ∧ Tab s' a l S row (sl ++ [c]) := by
  have e := t_lay_ok ext hk T hc h h8
  rw [he] at e
  refine ⟨_, e, ?_⟩
  have := tab_set T hal (sl ++ [c]) (by simp) (by simp; omega) []
  rwa [List.append_nil] at this
end
def Sh : Stg := ⟨["red", "blue"], [("bag", "any"), ("wreath", "ring")], [("b1", 0), ("b2", 0), ("b3", 0), ("w1", 1), ("w2", 1), ("w3", 1)]⟩
def Si : Stg := ⟨["a", "b"], [("t", "turn"), ("e", "ring")], [("x", 0), ("y", 0), ("z", 0)]⟩
theorem Sh_fine : Sh.fine := ⟨by decide, by decide, by decide⟩
theorem Si_fine : Si.fine := ⟨by decide, by decide, by decide⟩
theorem lay_h : Sh.isLay [2, 1, 0, 5, 3, 4] = true := by
  have e1 : Sh.places 0 = [0, 1, 2] := by decide +kernel
  have e2 : Sh.places 1 = [3, 4, 5] := by decide +kernel
  have m1 : Sh.man 0 = "any" := by decide +kernel
  have m2 : Sh.man 1 = "ring" := by decide +kernel
  have s1 : sortI [2, 1, 0] = [0, 1, 2] := (sort_of_perm (by decide)).trans (sort_range 3)
  have o1 : isOwn "any" [0, 1, 2] [2, 1, 0] = true := by
    unfold isOwn
    rw [if_pos rfl]
    exact decide_eq_true s1
  have o2 : isOwn "ring" [3, 4, 5] [5, 3, 4] = true := by decide +kernel
  show (List.range 2).all _ = true
  simp only [show List.range 2 = [0, 1] from rfl, List.all_cons, List.all_nil, e1, e2, m1, m2, Bool.and_true, Bool.and_eq_true]
  exact ⟨o1, o2⟩
theorem lay_i : Si.isLay [2, 1, 0] = true := by decide +kernel
def rowH : List Nat := [0, 1, 0, 1, 0, 1]
def rowI : List Nat := [0, 0, 1]
def toldH : List D := [tTold, tTold, eM [1, 0, 0, 0, 1, 1], eM [1, 0, 2, 4, 5, 3], .int 2, tStep "tray", tStep "manner", tStep "manner", .non, .int 3, .non, .non, .non, .non, eM [0, 1, 2, 4, 5, 3], .non, eM [0, 1, 0, 1, 0, 1]]
def toldI : List D := [.non, eM [1, 0, 0], .non, eM [1, 0, 0], .non, .int 3, tTold, eM [0, 0, 1], eM [0, 1, 2]]
end K93

/-! K93, mathematics 16: the law's hand, gone through. -/
namespace K93
open PySem Fw Mx PG
theorem res_lay {S : Stg} (hS : S.fine) {c : List Nat} (hl : c.length = S.n) (h : S.isLay (c.map Int.ofNat) = true) {k : Nat} (hk : 4 ≤ k) : ∀ b s, (CC PD WF k b).run true 8 [S.d, eM c] s = some (.bl true, s) := fun b s => by
  have := r8 ext b s hk hS (a := c.map Int.ofNat) (by rw [List.length_map]; exact hl)
  rw [h, ← eM_int] at this
  exact this
theorem hand1 {k : Nat} (hk : 9 ≤ k) : ∃ s', Tab s' 0 1 Sh rowH [[0, 1, 2, 3, 4, 5], [0, 1, 2, 4, 5, 3], [2, 1, 0, 3, 4, 5]] ∧
    ∀ (env : En), env[1]? = some (some (.obj 0)) → evE (CC PD WF k 0) env (.lst (Es.of [(.call false 507 (Es.of [(.var 1), (.tup (Es.of [(.str "turn"), (.int 1), (.int (-2))]))])), (.call false 507 (Es.of [(.var 1), (.tup (Es.of [(.str "exchange"), (.int 0), (.int 1)]))])), (.meth "Table" "row" 20 (.var 1) .nil), (.meth "Table" "laying" 21 (.var 1) .nil), (.meth "Table" "deeds" 22 (.var 1) .nil), (.call false 507 (Es.of [(.var 1), (.tup (Es.of [(.str "exchange"), (.int 2), (.int 3)]))])), (.call false 507 (Es.of [(.var 1), (.tup (Es.of [(.str "exchange"), (.int 3), (.int 4)]))])), (.call false 507 (Es.of [(.var 1), (.tup (Es.of [(.str "turn"), (.int 0), (.int 0)]))])), (.methK "Table" "exchange" 17 [0, 1, 2] (.var 1) .nil (Es.of [(.int 2), (.int 2)])), (.meth "Table" "deeds" 22 (.var 1) .nil), (.methK "Table" "turn" 18 [0, 1, 2] (.var 1) .nil (Es.of [(.int 1), (.int 3)])), (.meth "Table" "back" 19 (.var 1) .nil), (.meth "Table" "back" 19 (.var 1) .nil), (.meth "Table" "back" 19 (.var 1) .nil), (.meth "Table" "laying" 21 (.var 1) .nil), (.methK "Table" "lay" 16 [0, 1] (.var 1) .nil (Es.of [(.tup (Es.of [(.int 2), (.int 1), (.int 0), (.int 5), (.int 3), (.int 4)]))])), (.meth "Table" "row" 20 (.var 1) .nil)])) [some (.ins "Table" (tabF Sh rowH 1)), some (.lst [eM [0, 1, 2, 3, 4, 5]])] = some (.lst toldH, s') := by
  have T0 : Tab [some (.ins "Table" (tabF Sh rowH 1)), some (.lst [eM [0, 1, 2, 3, 4, 5]])] 0 1 Sh rowH [[0, 1, 2, 3, 4, 5]] := ⟨rfl, rfl, by simp, by simp⟩
  obtain ⟨k, rfl⟩ := Nat.exists_eq_add_of_le' (show 1 ≤ k by omega)
  obtain ⟨s1, e1, T1⟩ := h_turn (k := k) (by omega) Sh_fine T0 (by decide) (by decide) 1 (-2) (by decide) (by decide +kernel) rfl [0, 1, 2, 4, 5, 3] (by decide +kernel)
  obtain ⟨s2, e2, T2⟩ := h_ex (k := k) (by omega) Sh_fine T1 (by decide) (by decide) 0 1 (by decide) (by decide) (by decide +kernel) (by decide +kernel) (by decide +kernel) rfl [1, 0, 2, 4, 5, 3] (by decide +kernel)
  have f1 := tl_turn (t := 1) (m := -2) T0 e1
  have f2 := tl_ex (i := 0) (j := 1) T1 e2
  have f3 := t_row ext (k := k + 1) (by omega) T2 (by decide) (by decide)
  have f4 := t_laying ext (k := k + 1) (by omega) T2
  have f5 := t_deeds ext (k := k + 1) (by omega) T2
  have f6 := tl_ex_no T2 (t_ex_tray ext (k := k) (by omega) Sh_fine T2 (i := 2) (j := 3) (by decide) (by decide) (by decide +kernel))
  have f7 := tl_ex_no T2 (t_ex_man ext (k := k) (by omega) Sh_fine T2 (i := 3) (j := 4) (by decide) (by decide) (by decide +kernel) (by decide +kernel) (by decide +kernel))
  have f8 := tl_turn_no T2 (t_turn_no ext (k := k) (by omega) Sh_fine T2 (t := 0) (by decide) 0 (by decide +kernel))
  obtain ⟨s3, e9, T3⟩ := h_ex (k := k + 1) (by omega) Sh_fine T2 (by decide) (by decide) 2 2 (by decide) (by decide) rfl (by decide +kernel) (by decide +kernel) rfl [1, 0, 2, 4, 5, 3] (by decide +kernel)
  have f10 := t_deeds ext (k := k + 1) (by omega) T3
  obtain ⟨s4, e11, T4⟩ := h_turn (k := k + 1) (by omega) Sh_fine T3 (by decide) (by decide) 1 3 (by decide) (by decide +kernel) rfl [1, 0, 2, 4, 5, 3] (by decide +kernel)
  obtain ⟨s5, e12, T5⟩ := h_back (k := k + 1) (by omega) T4 (by decide) (by decide) (by decide)
  obtain ⟨s6, e13, T6⟩ := h_back (k := k + 1) (by omega) T5 (by decide) (by decide) (by decide)
  obtain ⟨s7, e14, T7⟩ := h_back (k := k + 1) (by omega) T6 (by decide) (by decide) (by decide)
  have f15 := t_laying ext (k := k + 1) (by omega) T7
  obtain ⟨s8, e16, T8⟩ := h_lay (k := k) (by omega) T7 (by decide) (by decide) (c0 := [2, 1, 0, 5, 3, 4]) (by decide) (by decide) (res_lay Sh_fine (c := [2, 1, 0, 5, 3, 4]) rfl lay_h (by omega)) [2, 1, 0, 3, 4, 5] (by decide +kernel)
  have f17 := t_row ext (k := k + 1) (by omega) T8 (by decide) (by decide)
  refine ⟨s8, T8, fun env h1 => ?_⟩
  have v1 : evE (CC PD WF (k + 1) 0) env (.var 1) = fun s => some (.obj 0, s) := by funext s; rw [evE_var, h1]
  have n1 := run_ok e9
  have n2 := run_ok e11
  have n3 := run_ok e12
  have n4 := run_ok e13
  have n5 := run_ok e14
  have n6 := run_ok e16
  have a1 : (D.tup [.str "turn", .int 1, .int (-2)]) = dTurn 1 (-2) := rfl
  have a2 : (D.tup [.str "exchange", .int 0, .int 1]) = dEx 0 1 := rfl
  have a3 : (D.tup [.str "exchange", .int 2, .int 3]) = dEx 2 3 := rfl
  have a4 : (D.tup [.str "exchange", .int 3, .int 4]) = dEx 3 4 := rfl
  have a5 : (D.tup [.str "turn", .int 0, .int 0]) = dTurn 0 0 := rfl
  have a6 : (D.tup [.int 2, .int 1, .int 0, .int 5, .int 3, .int 4]) = eM [2, 1, 0, 5, 3, 4] := rfl
  have x9 : Fw.run PD WF (k + 1) 17 [.obj 0, .int 2, .int 2] s2 = some (.non, s3) := n1
  have x11 : Fw.run PD WF (k + 1) 18 [.obj 0, .int 1, .int 3] s3 = some (.non, s4) := n2
  have z1 : (-2 : Int) = -2 := rfl
  simp [Es.of, Es.n, permL, v1, a1, a2, a3, a4, a5, a6, f1, f2, T2.ins, f3, f4, f5, f6, f7, f8, x9, T3.ins, f10, x11, T4.ins, n3, T5.ins, n4, T6.ins, n5, T7.ins, f15, n6, T8.ins, f17, -evE_var]
  rfl
theorem hand2 {k : Nat} (hk : 9 ≤ k) {s : Sto} {a l : Nat} (hal : a ≠ l) (T0 : Tab s a l Si rowI [[0, 1, 2]]) (b : Nat) : ∃ s', ∀ (env : En), env[4]? = some (some (.obj a)) → evE (CC PD WF k b) env (.lst (Es.of [(.meth "Table" "turn" 18 (.var 4) (Es.of [(.int 0), (.int (-3))])), (.meth "Table" "row" 20 (.var 4) .nil), (.meth "Table" "turn" 18 (.var 4) (Es.of [(.int 0), (.int 2)])), (.meth "Table" "row" 20 (.var 4) .nil), (.meth "Table" "turn" 18 (.var 4) (Es.of [(.int 1), (.int 5)])), (.meth "Table" "deeds" 22 (.var 4) .nil), (.call false 507 (Es.of [(.var 4), (.tup (Es.of [(.str "lay"), (.tup (Es.of [(.int 2), (.int 1), (.int 0)]))]))])), (.meth "Table" "row" 20 (.var 4) .nil), (.meth "Table" "laying" 21 (.var 4) .nil)])) s = some (.lst toldI, s') := by
  obtain ⟨k, rfl⟩ := Nat.exists_eq_add_of_le' (show 2 ≤ k by omega)
  obtain ⟨s1, e1, T1⟩ := h_turn (k := k + 2) (by omega) Si_fine T0 hal (by decide) 0 (-3) (by decide) (by decide +kernel) rfl [2, 1, 0] (by decide +kernel)
  have f1 := t_row ext (k := k + 2) (by omega) T1 (by decide) (by decide)
  obtain ⟨s2, e2, T2⟩ := h_turn (k := k + 2) (by omega) Si_fine T1 hal (by decide) 0 2 (by decide) (by decide +kernel) rfl [2, 1, 0] (by decide +kernel)
  have f2 := t_row ext (k := k + 2) (by omega) T2 (by decide) (by decide)
  obtain ⟨s3, e3, T3⟩ := h_turn (k := k + 2) (by omega) Si_fine T2 hal (by decide) 1 5 (by decide) (by decide +kernel) rfl [2, 1, 0] (by decide +kernel)
  have f3 := t_deeds ext (k := k + 2) (by omega) T3
  obtain ⟨s4, e4, T4⟩ := h_lay (k := k) (by omega) T3 hal (by decide) (c0 := [2, 1, 0]) (by decide) (by decide) (res_lay Si_fine (c := [2, 1, 0]) rfl lay_i (by omega)) [0, 1, 2] (by decide +kernel)
  have f4 := tl_lay T3 e4
  have f5 := t_row ext (k := k + 2) (by omega) T4 (by decide) (by decide)
  have f6 := t_laying ext (k := k + 2) (by omega) T4
  refine ⟨s4, fun env h1 => ?_⟩
  have v1 : evE (CC PD WF (k + 2) b) env (.var 4) = fun s => some (.obj a, s) := by funext s; rw [evE_var, h1]
  have n1 : Fw.run PD WF (k + 2) 18 [.obj a, .int 0, .int (-3)] s = some (.non, s1) := run_ok e1
  have n2 : Fw.run PD WF (k + 2) 18 [.obj a, .int 0, .int 2] s1 = some (.non, s2) := run_ok e2
  have n3 : Fw.run PD WF (k + 2) 18 [.obj a, .int 1, .int 5] s2 = some (.non, s3) := run_ok e3
  have a1 : (D.tup [.str "lay", .tup [.int 2, .int 1, .int 0]]) = dLay (eM [2, 1, 0]) := rfl
  simp [Es.of, v1, T0.ins, n1, T1.ins, f1, n2, T2.ins, f2, n3, T3.ins, f3, a1, f4, T4.ins, f5, f6, -evE_var]
  rfl
theorem c511 {k : Nat} (hk : 10 ≤ k) (b : Nat) (s : Sto) : (CC PD WF k b).run true 511 [] s = some (.bl true, s) := by
  obtain ⟨k, rfl⟩ := Nat.exists_eq_add_of_le' (show 1 ≤ k by omega)
  obtain ⟨s1, T1, h1⟩ := hand1 (k := k) (by omega)
  have i1 := t_init ext (k := k) (by omega) Sh_fine rowH (s := [some (.ins "Table" [])]) (a := 0) rfl
  have i2 := t_init ext (k := k) (by omega) Si_fine rowI (s := s1 ++ [some (.ins "Table" [])]) (a := s1.length) (by simp)
  have es : setO ((s1 ++ [some (Ob.ins "Table" [])]) ++ [some (.lst [eM (List.range Si.n)])]) s1.length (some (Ob.ins "Table" (tabF Si rowI (s1 ++ [some (Ob.ins "Table" [])]).length))) = s1 ++ [some (.ins "Table" (tabF Si rowI (s1.length + 1))), some (.lst [eM (List.range Si.n)])] := by
    rw [List.append_assoc, setO_app0]; simp
  rw [es] at i2
  obtain ⟨s2, hs2⟩ : ∃ s2 : Sto, s2 = s1 ++ [some (.ins "Table" (tabF Si rowI (s1.length + 1))), some (.lst [eM (List.range Si.n)])] := ⟨_, rfl⟩
  rw [← hs2] at i2
  have T2 : Tab s2 s1.length (s1.length + 1) Si rowI [[0, 1, 2]] := by
    refine ⟨?_, ?_, by simp, by simp⟩
    · rw [hs2, getO_app0]; rfl
    · rw [hs2, getO_appk]; rfl
  obtain ⟨s3, h2⟩ := hand2 (k := k) (by omega) (by omega) T2 0
  have sa := same k (by omega) (d := .lst toldH) (by decide +kernel) (by decide +kernel) 0 s3
  have sb := same k (by omega) (d := .lst toldI) (by decide +kernel) (by decide +kernel) 0 s3
  refine pure_call rfl (s' := s3) ?_ rfl b s
  rw [go511]
  refine Fw.st (F := fin) (e1 := [some Sh.d, none, none, none, none, none, none]) (s1 := []) (by simp [Es.of]; rfl) ?_
  refine Fw.st (F := fin) (e1 := [some Sh.d, some (.obj 0), none, none, none, none, none]) (s1 := [some (.ins "Table" (tabF Sh rowH 1)), some (.lst [eM [0, 1, 2, 3, 4, 5]])]) ?_ ?_
  · have a1 : (D.tup [.int 0, .int 1, .int 0, .int 1, .int 0, .int 1]) = eM rowH := rfl
    simp [Es.of, Es.n, permL, a1, i1]
    rfl
  refine Fw.st (F := fin) (e1 := [some Sh.d, some (.obj 0), some (.lst toldH), none, none, none, none]) (s1 := s1) (by rw [exS_asg]; erw [h1 _ rfl]; rfl) ?_
  refine Fw.st (F := fin) (e1 := [some Sh.d, some (.obj 0), some (.lst toldH), some (.lst toldH), none, none, none]) (s1 := s1) (by simp [Es.of]; rfl) ?_
  refine Fw.st (F := fin) (e1 := [some Sh.d, some (.obj 0), some (.lst toldH), some (.lst toldH), some (.obj s1.length), none, none]) (s1 := s2) ?_ ?_
  · have a1 : (D.tup [.int 0, .int 0, .int 1]) = eM rowI := rfl
    have a2 : (D.tup [.tup [.str "a", .str "b"], .tup [.tup [.str "t", .str "turn"], .tup [.str "e", .str "ring"]], .tup [.tup [.str "x", .int 0], .tup [.str "y", .int 0], .tup [.str "z", .int 0]]]) = Si.d := rfl
    simp [Es.of, a1, a2, i2]
  refine Fw.st (F := fin) (e1 := [some Sh.d, some (.obj 0), some (.lst toldH), some (.lst toldH), some (.obj s1.length), some (.lst toldI), none]) (s1 := s3) (by rw [exS_asg]; erw [h2 _ rfl]; rfl) ?_
  refine Fw.st (F := fin) (e1 := [some Sh.d, some (.obj 0), some (.lst toldH), some (.lst toldH), some (.obj s1.length), some (.lst toldI), some (.lst toldI)]) (s1 := s3) (by simp [Es.of]; rfl) ?_
  simp [Es.of, sa, sb]
end K93

/-! K93, mathematics 17: all taken back; the law. -/
namespace K93
open PySem Fw Mx PG
theorem ix_disj {ls : List LotR} (hnd : (ls.flatMap LotR.ix).Nodup) {x y : LotR} (hx : x ∈ ls) (hy : y ∈ ls) (hne : y ≠ x) : ∀ n ∈ y.ix, n ∉ x.ix := by
  obtain ⟨pre, post, rfl⟩ := List.append_of_mem hx
  simp only [List.flatMap_append, List.flatMap_cons] at hnd
  obtain ⟨d1, d2, d3⟩ := List.nodup_append.mp hnd
  obtain ⟨d4, d5, d6⟩ := List.nodup_append.mp d2
  intro n hn hm
  rcases List.mem_append.mp hy with hp | hp
  · exact d3 n (List.mem_flatMap.mpr ⟨y, hp, hn⟩) n (List.mem_append_left _ hm) rfl
  · rcases List.mem_cons.mp hp with rfl | hp
    · exact hne rfl
    · exact d6 n hm n (List.mem_flatMap.mpr ⟨y, hp, hn⟩) rfl
/-- one deed taken back -/
theorem back_lap {k : Nat} (hk : 6 ≤ k) (b : Nat) {s : Sto} {a l q : Nat} {S : Stg} {row : List Nat} {sl : List (List Nat)} (L : Lot s a l q S row sl) (hS : SG S) (hal : a ≠ l) (haq : a ≠ q) (hlq : l ≠ q) (env : En) (h4 : env[4]? = some (some (eM row))) (h6 : env[6]? = some (some (.obj a))) (h7 : env[7]? = some (some (.obj q))) :
    ∃ (s' : Sto) (sl' : List (List Nat)), exSs (CC PD WF k b) b510_1 env s = some (.nx env s') ∧ Lot s' a l q S row sl' ∧ Keep s s' [l, q] := by
  obtain ⟨k, rfl⟩ := Nat.exists_eq_add_of_le' (show 1 ≤ k by omega)
  have hne := L.tab.ne
  have hfew := L.few
  by_cases h1 : sl.length = 1
  · have e1 := tl_back_no L.tab (t_back_no ext (k := k) (by omega) L.tab h1)
    have e1' : Fw.run PD WF (k + 1) 507 [.obj a, .tup [.str "back"]] s = some (.tup [.str "none", .str "deed", .str ""], s) := e1
    have e2 : (CC PD WF (k + 1) b).run true 502 [.tup [.str "none", .str "deed", .str ""], .tup [.str "none", .str "deed", .str ""]] s = some (.bl true, s) := same (k + 1) (by omega) (d := tNone) (by decide +kernel) (by decide +kernel) b s
    have e3 := stands (k := k + 1) (by omega) hS L
    have lq := len_obj L.st
    refine ⟨s, sl, ?_, L, .refl _ _⟩
    simp [b510_1, h4, h6, h7, Es.of, e1', lq, h1, e2, e3]
  · have hpos : 0 < sl.length := List.length_pos_iff.mpr hne
    obtain ⟨s1, hs1⟩ : ∃ s1, s1 = setO s l (some (.lst (sl.dropLast.map eM))) := ⟨_, rfl⟩
    have e1 := tl_back L.tab (t_back ext (k := k) (by omega) L.tab h1)
    rw [← hs1] at e1
    have e1' : Fw.run PD WF (k + 1) 507 [.obj a, .tup [.str "back"]] s = some (.tup [.str "told", .non], s1) := e1
    have T1 : Tab s1 a l S row sl.dropLast := by
      have := tab_set L.tab hal sl.dropLast (by intro z; have := congrArg List.length z; simp at this; omega) (by simp; omega) []
      rw [List.append_nil] at this
      rw [hs1]; exact this
    have K1 : Keep s s1 [l] := by rw [hs1]; exact Keep.set _ _ _ _ (.inl (by simp))
    have g1 := K1.get L.st (by simp; omega)
    have e2 : (CC PD WF (k + 1) b).run true 502 [.tup [.str "told", .non], .tup [.str "told", .non]] s1 = some (.bl true, s1) := same (k + 1) (by omega) (d := tTold) (by decide +kernel) (by decide +kernel) b s1
    obtain ⟨s2, hs2⟩ : ∃ s2, s2 = setO s1 q (some (.lst (sl.map eM).dropLast)) := ⟨_, rfl⟩
    have K2 : Keep s1 s2 [q] := by rw [hs2]; exact Keep.set _ _ _ _ (.inl (by simp))
    have L2 : Lot s2 a l q S row sl.dropLast := ⟨T1.keep K2 (by simp; omega) (by simp; omega), by rw [hs2, List.map_dropLast]; exact getO_set _ _ (getO_lt g1), fun c hc => L.good c ((List.dropLast_sublist _).subset hc), L.rl, by simp; omega⟩
    have e3 := stands (k := k + 1) (by omega) hS L2
    have lq := len_obj g1
    have hla := last_get hne
    have h1' : (1 : Int) < (sl.length : Nat) := by omega
    have h1'' : 1 < sl.length := by omega
    refine ⟨s2, sl.dropLast, ?_, L2, (K1.mono (T' := [l, q]) (fun n hn => .inl (by simp at hn ⊢; omega))).trans (K2.mono (fun n hn => .inl (by simp at hn ⊢; omega)))⟩
    simp [b510_1, h4, h6, h7, Es.of, e1', lq, h1', h1'', e2, g1, hla, ← hs2, e3]
theorem back_all {k : Nat} (hk : 6 ≤ k) (b : Nat) {s : Sto} {a l q : Nat} {S : Stg} {row : List Nat} {sl : List (List Nat)} (L : Lot s a l q S row sl) (hS : SG S) (hal : a ≠ l) (haq : a ≠ q) (hlq : l ≠ q) (x0 x1 x2 x5 x8 x9 x10 x11 : Option D) :
    ∃ (x5' : Option D) (s' : Sto) (sl' : List (List Nat)), exSs (CC PD WF k b) b510_2 [x0, x1, x2, some S.d, some (eM row), x5, some (.obj a), some (.obj q), x8, x9, x10, x11] s = some (.nx [x0, x1, x2, some S.d, some (eM row), x5', some (.obj a), some (.obj q), x8, x9, x10, x11] s') ∧ Lot s' a l q S row sl' ∧ Keep s s' [l, q] := by
  obtain ⟨env', s', e, x5', sl', rfl, L', K'⟩ := forE_inv (C := CC PD WF k b) (g := .name 5) (b := b510_1) (env := [x0, x1, x2, some S.d, some (eM row), x5, some (.obj a), some (.obj q), x8, x9, x10, x11]) (s := s) (fun (n : Nat) => D.int (n : Int))
    (fun p env s' => ∃ (x5' : Option D) (sl' : List (List Nat)), env = [x0, x1, x2, some S.d, some (eM row), x5', some (.obj a), some (.obj q), x8, x9, x10, x11] ∧ Lot s' a l q S row sl' ∧ Keep s s' [l, q]) (List.range sl.length) ⟨x5, sl, rfl, L, .refl _ _⟩ (by
      rintro p y r _ s' hl ⟨x5', sl', rfl, L', K'⟩
      obtain ⟨s2, sl2, e2, L2, K2⟩ := back_lap hk b L' hS hal haq hlq [x0, x1, x2, some S.d, some (eM row), some (.int y), some (.obj a), some (.obj q), x8, x9, x10, x11] rfl rfl rfl
      exact ⟨_, _, s2, rfl, e2, _, sl2, rfl, L2, K'.trans K2⟩)
  have hf := L.few
  have h1 : (sl.length : Int) ≤ 1000000 := by omega
  have h2 : -1000000 ≤ (sl.length : Int) := by omega
  refine ⟨x5', s', sl', ?_, L', K'⟩
  simp [b510_2, len_obj L.st, rg_nat, h1, h2, e]
theorem session {k : Nat} (hk : 10 ≤ k) {s : Sto} (hc : Cl plN s) (hlen : s.length = 3) : ∃ s', run PD WF k 510 [.obj 2] s = some (.bl true, s') := by
  obtain ⟨k, rfl⟩ := Nat.exists_eq_add_of_le' (show 1 ≤ k by omega)
  rw [go510, hlen]
  have S0 : Ses (s ++ [some (.lst [])]) [] := ⟨hc.app _, by rw [← hlen]; simp, by simp, by simp, by simp⟩
  obtain ⟨x2, x3, x4, s1, ls, e1, h1, hl, hv⟩ := make (k := k) (by omega) 3 S0
  obtain ⟨env', s2, e2, ls2, x3', x4', x5', x6', x7', x8', x9', x10', rfl, h2, hl2, hv2⟩ := forE_inv (C := CC PD WF k 3) (g := .name 5) (b := b510_3) (env := [some (.obj 2), some (.obj 3), x2, x3, x4, none, none, none, none, none, none, none]) (s := s1) (fun (n : Nat) => D.int (n : Int))
    (fun p env s' => ∃ (ls' : List LotR) (x3 x4 x5 x6 x7 x8 x9 x10 : Option D), env = [some (.obj 2), some (.obj 3), x2, x3, x4, x5, x6, x7, x8, x9, x10, none] ∧ Ses s' ls' ∧ ls'.length = 2 ∧ ∀ x ∈ ls', x.sl.length ≤ p.length + 1) (List.range 25) ⟨ls, _, _, _, _, _, _, _, _, rfl, h1, hl, fun x hx => by rw [hv x hx]; simp⟩ (by
      rintro p y r _ s' hlr ⟨ls', y3, y4, y5, y6, y7, y8, y9, y10, rfl, h', hl', hv'⟩
      obtain ⟨rfl, hy⟩ := range_at hlr
      obtain ⟨z3, z4, z6, z7, z8, z9, z10, s'', ls'', e, h'', hl'', hv''⟩ := lap_ok (k := k) (by omega) 3 h' hl' p.length (fun x hx => by have := hv' x hx; omega) x2 y3 y4 y6 y7 y8 y9 y10 none
      exact ⟨_, _, _, rfl, e, ls'', _, _, _, _, _, _, _, _, rfl, h'', hl'', by rw [List.length_append]; exact hv'' _ hv'⟩)
  have h3 := getO_lt h2.lots
  obtain ⟨s3, hs3⟩ : ∃ s3, s3 = setO s2 3 none := ⟨_, rfl⟩
  have K3 : Keep s2 s3 [3] := by rw [hs3]; exact Keep.set _ _ _ _ (.inl (by simp))
  have lots3 : ∀ x ∈ ls2, ∃ sl, Lot s3 x.a x.l x.q x.S x.row sl := fun x hx => by
    have g : ∀ n ∈ x.ix, n ∉ [3] := fun n hn => by have := h2.ge n (List.mem_flatMap.mpr ⟨x, hx, hn⟩); simp; omega
    exact ⟨x.sl, (h2.ok x hx).1.keep K3 (g _ (by simp [LotR.ix])) (g _ (by simp [LotR.ix])) (g _ (by simp [LotR.ix]))⟩
  obtain ⟨env', s4, e4, _⟩ := forE_inv (C := CC PD WF k 3) (g := .tup (Gs.of [.name 6, .name 3, .name 4, .name 7])) (b := b510_2) (env := [some (.obj 2), some (.lst (ls2.map LotR.d)), x2, x3', x4', x5', x6', x7', x8', x9', x10', none]) (s := s3) LotR.d
    (fun p env s' => (∃ (x3 x4 x5 x6 x7 : Option D), env = [some (.obj 2), some (.lst (ls2.map LotR.d)), x2, x3, x4, x5, x6, x7, x8', x9', x10', none]) ∧ ∀ x ∈ ls2, ∃ sl, Lot s' x.a x.l x.q x.S x.row sl) ls2 ⟨⟨_, _, _, _, _, rfl⟩, lots3⟩ (by
      rintro p x r _ s' hlr ⟨⟨y3, y4, y5, y6, y7, rfl⟩, hlots⟩
      have hx : x ∈ ls2 := by rw [hlr]; simp
      obtain ⟨sl, L⟩ := hlots x hx
      obtain ⟨hal, haq, hlq⟩ := ix_ne h2 hx
      obtain ⟨z5, s'', sl', e, L', K'⟩ := back_all (k := k) (by omega) 3 L (h2.ok x hx).2 hal haq hlq (some (.obj 2)) (some (.lst (ls2.map LotR.d))) x2 y5 x8' x9' x10' none
      refine ⟨[some (.obj 2), some (.lst (ls2.map LotR.d)), x2, some x.S.d, some (eM x.row), y5, some (.obj x.a), some (.obj x.q), x8', x9', x10', none], _, s'', rfl, e, ⟨_, _, _, _, _, rfl⟩, fun y hy => ?_⟩
      by_cases hyx : y = x
      · subst hyx; exact ⟨sl', L'⟩
      · obtain ⟨sy, Ly⟩ := hlots y hy
        have dj := ix_disj h2.nd hx hy hyx
        have g : ∀ n ∈ y.ix, n ∉ [x.l, x.q] := fun n hn hm => dj n hn (by simp [LotR.ix] at hm ⊢; omega)
        exact ⟨sy, Ly.keep K' (g _ (by simp [LotR.ix])) (g _ (by simp [LotR.ix])) (g _ (by simp [LotR.ix]))⟩)
  refine ⟨s4, ?_⟩
  have rg2 : rgD 2 = (List.range 2).map fun (n : Nat) => D.int (n : Int) := rfl
  have rg25 : rgD 25 = (List.range 25).map fun (n : Nat) => D.int (n : Int) := rfl
  refine Fw.st (F := fin) (e1 := [some (.obj 2), some (.obj 3), none, none, none, none, none, none, none, none, none, none]) (s1 := s ++ [some (.lst [])]) (by simp [hlen]) ?_
  refine Fw.st (F := fin) (e1 := [some (.obj 2), some (.obj 3), x2, x3, x4, none, none, none, none, none, none, none]) (s1 := s1) (by
    simp only [exS_for_, evI_rng1, evE_int, Option.bind_some]
    rw [if_pos (by decide)]
    simp only [Option.bind_some, rg2, e1]) ?_
  refine Fw.st (F := fin) (e1 := [some (.obj 2), some (.obj 3), x2, x3', x4', x5', x6', x7', x8', x9', x10', none]) (s1 := s2) (by
    simp only [exS_for_, evI_rng1, evE_int, Option.bind_some]
    rw [if_pos (by decide)]
    simp only [Option.bind_some, rg25, e2]) ?_
  have hfz : frzS 3 1 [some (.obj 2), some (.obj 3), x2, x3', x4', x5', x6', x7', x8', x9', x10', none] s2 = some ([some (.obj 2), some (.lst (ls2.map LotR.d)), x2, x3', x4', x5', x6', x7', x8', x9', x10', none], s3) := by
    simp [frzS, h2.lots, hs3]
  rw [exSs_frz, hfz]
  simp only [Option.bind_some]
  refine Fw.st (F := fin) (e1 := env') (s1 := s4) (by simp [e4]) ?_
  simp
theorem law : ∀ ns : List Int, ns.length ≤ 63 → ∃ s', run PD WF (20 + 1) 512 [.scr ns] [] = some (.bl true, s') := by
  intro ns hn
  obtain ⟨s1, e1, c1, l1⟩ := cloth_ok (P := PD) (wf := WF) (i := 500) (m0 := 132001) (cut := 50) (mul := 39373) (modS := 999371) (kk := 7) (M := 2147482481) (e10 := 17) rfl (by decide) (by decide) (by decide) (by decide) (k := 20) (by decide) plN ns hn
  obtain ⟨s2, e2⟩ := session (k := 20) (by decide) c1 l1
  have e3 := c511 (k := 20) (by decide) 0 []
  refine ⟨s2, ?_⟩
  rw [go512]
  simp [b512, Es.of, e1, e2, e3]
end K93

namespace K93
open PySem PySem.Spec PySem.Calls PyProof.Rows L2 Fw PG
theorem err_BadRow {P : Program} {w : World} {K : PySem.W.Frag} {mg : Str → Option Value} {base : Heap} {C : Addr} (e : ExcAt K "BadRow" C) (d : ErrAt K P C "BadRow.__init__" (inClass (topS 5) 0)) (g : mg "BadRow" = some (.ref (cAd K "BadRow")))
    (no_at : PySem.W.findIn K (.ref C) "at" = some none)
    (ns : PySem.W.nsIn K mainGlobals "super" = some none) (ss : PySem.W.nsIn K cStatics "thirdparty.any" = some none) (top : (P.main.scope.names.lookup ("super" : Str)).isSome = false) : FwQ.ErrOk P w K mg base "BadRow" (cAd K "BadRow") ["at"] := by
  have hc := cAd_of e.1
  rw [hc] at g ⊢
  obtain ⟨fI, cc, cda, T⟩ := d.errC e ns ss top
  exact FwQ.errOk1 T g no_at (by decide) (by decide) (by decide) (by decide) (fun _ _ _ _ _ _ _ => rfl) (fun _ => ⟨_, rfl⟩)
theorem err_BadStep {P : Program} {w : World} {K : PySem.W.Frag} {mg : Str → Option Value} {base : Heap} {C : Addr} (e : ExcAt K "BadStep" C) (d : ErrAt K P C "BadStep.__init__" (inClass (topS 6) 0)) (g : mg "BadStep" = some (.ref (cAd K "BadStep")))
    (no_word : PySem.W.findIn K (.ref C) "word" = some none)
    (ns : PySem.W.nsIn K mainGlobals "super" = some none) (ss : PySem.W.nsIn K cStatics "thirdparty.any" = some none) (top : (P.main.scope.names.lookup ("super" : Str)).isSome = false) : FwQ.ErrOk P w K mg base "BadStep" (cAd K "BadStep") ["word"] := by
  have hc := cAd_of e.1
  rw [hc] at g ⊢
  obtain ⟨fI, cc, cda, T⟩ := d.errC e ns ss top
  exact FwQ.errOk1 T g no_word (by decide) (by decide) (by decide) (by decide) (fun _ _ _ _ _ _ _ => rfl) (fun _ => ⟨_, rfl⟩)
theorem err_NoSuch {P : Program} {w : World} {K : PySem.W.Frag} {mg : Str → Option Value} {base : Heap} {C : Addr} (e : ExcAt K "NoSuch" C) (d : ErrAt K P C "NoSuch.__init__" (inClass (topS 7) 0)) (g : mg "NoSuch" = some (.ref (cAd K "NoSuch")))
    (no_word : PySem.W.findIn K (.ref C) "word" = some none) (no_name : PySem.W.findIn K (.ref C) "name" = some none)
    (ns : PySem.W.nsIn K mainGlobals "super" = some none) (ss : PySem.W.nsIn K cStatics "thirdparty.any" = some none) (top : (P.main.scope.names.lookup ("super" : Str)).isSome = false) : FwQ.ErrOk P w K mg base "NoSuch" (cAd K "NoSuch") ["word", "name"] := by
  have hc := cAd_of e.1
  rw [hc] at g ⊢
  obtain ⟨fI, cc, cda, T⟩ := d.errC e ns ss top
  exact FwQ.errOk2 T g no_word no_name (by decide) (by decide) (by decide) (by decide) (by decide) (by decide) (by decide) (by decide) (by decide) (fun _ _ _ _ _ _ _ _ => rfl) (fun _ => ⟨_, rfl⟩)
/-- all that the top has written -/
structure Tops (K : PySem.W.Frag) (P : Program) : Prop where
  d0 : DefAt K "is_integer" tp0
  d1 : DefAt K "tuple_of" tp1
  d2 : DefAt K "are_integers" tp2
  d3 : DefAt K "places_of" tp3
  d4 : DefAt K "trays_with" tp4
  d5 : DefAt K "turned" tp5
  d6 : DefAt K "own_layings" tp6
  d7 : DefAt K "is_own_laying" tp7
  d8 : DefAt K "is_laying" tp8
  d9 : DefAt K "check_laying" tp9
  d10 : DefAt K "plain_laying" tp10
  d11 : DefAt K "laid" tp11
  d12 : DefAt K "composed" tp12
  d13 : DefAt K "with_parts" tp13
  d500 : DefAt K "_law_cloth" tp500
  d501 : DefAt K "_law_take" tp501
  d502 : DefAt K "_law_same" tp502
  d503 : DefAt K "_law_setting" tp503
  d504 : DefAt K "_law_drawn" tp504
  d505 : DefAt K "_law_is_laying" tp505
  d506 : DefAt K "_law_moved" tp506
  d507 : DefAt K "_law_told" tp507
  d508 : DefAt K "_law_deed" tp508
  d509 : DefAt K "_law_stands" tp509
  d510 : DefAt K "_law_session" tp510
  d511 : DefAt K "_law_hand" tp511
  d512 : DefAt K "law" tp512
  i_Table : ∃ C, InsAt K "Table" C ∧ MethAt K C "__init__" "Table.__init__" tp14 ∧ MethAt K C "_lay" "Table._lay" tp15 ∧ MethAt K C "lay" "Table.lay" tp16 ∧ MethAt K C "exchange" "Table.exchange" tp17 ∧ MethAt K C "turn" "Table.turn" tp18 ∧ MethAt K C "back" "Table.back" tp19 ∧ MethAt K C "row" "Table.row" tp20 ∧ MethAt K C "laying" "Table.laying" tp21 ∧ MethAt K C "deeds" "Table.deeds" tp22 ∧ PySem.W.findIn K (.ref C) "_layings" = some none ∧ PySem.W.findIn K (.ref C) "_row" = some none ∧ PySem.W.findIn K (.ref C) "_setting" = some none
  exc : ∃ C_BadRow C_BadStep C_HoweverError C_NoSuch : Addr, ExcAt K "BadRow" C_BadRow ∧ ExcAt K "BadStep" C_BadStep ∧ ExcAt K "HoweverError" C_HoweverError ∧ ExcAt K "NoSuch" C_NoSuch ∧ ErrAt K P C_BadRow "BadRow.__init__" (inClass (topS 5) 0) ∧ ErrAt K P C_BadStep "BadStep.__init__" (inClass (topS 6) 0) ∧ ErrAt K P C_NoSuch "NoSuch.__init__" (inClass (topS 7) 0) ∧ PySem.W.findIn K (.ref C_BadRow) "at" = some none ∧ PySem.W.findIn K (.ref C_BadStep) "word" = some none ∧ PySem.W.findIn K (.ref C_NoSuch) "name" = some none ∧ PySem.W.findIn K (.ref C_NoSuch) "word" = some none ∧ PySem.W.subIn K (.ref C_BadRow) (.ref C_BadRow) = some true ∧ PySem.W.subIn K (.ref C_BadRow) (.ref C_BadStep) = some false ∧ PySem.W.subIn K (.ref C_BadRow) (.ref C_HoweverError) = some true ∧ PySem.W.subIn K (.ref C_BadRow) (.ref C_NoSuch) = some false ∧ PySem.W.subIn K (.ref C_BadStep) (.ref C_BadRow) = some false ∧ PySem.W.subIn K (.ref C_BadStep) (.ref C_BadStep) = some true ∧ PySem.W.subIn K (.ref C_BadStep) (.ref C_HoweverError) = some true ∧ PySem.W.subIn K (.ref C_BadStep) (.ref C_NoSuch) = some false ∧ PySem.W.subIn K (.ref C_NoSuch) (.ref C_BadRow) = some false ∧ PySem.W.subIn K (.ref C_NoSuch) (.ref C_BadStep) = some false ∧ PySem.W.subIn K (.ref C_NoSuch) (.ref C_HoweverError) = some true ∧ PySem.W.subIn K (.ref C_NoSuch) (.ref C_NoSuch) = some true ∧ PySem.W.findIn K (.ref C_BadRow) "__getattribute__" = some (some (.builtin "BaseException.__getattribute__")) ∧ PySem.W.findIn K (.ref C_BadRow) "__getattr__" = some none ∧ PySem.W.hasDictIn K C_BadRow = true ∧ PySem.W.findIn K (.ref C_BadStep) "__getattribute__" = some (some (.builtin "BaseException.__getattribute__")) ∧ PySem.W.findIn K (.ref C_BadStep) "__getattr__" = some none ∧ PySem.W.hasDictIn K C_BadStep = true ∧ PySem.W.findIn K (.ref C_NoSuch) "__getattribute__" = some (some (.builtin "BaseException.__getattribute__")) ∧ PySem.W.findIn K (.ref C_NoSuch) "__getattr__" = some none ∧ PySem.W.hasDictIn K C_NoSuch = true
  nsS : PySem.W.nsIn K mainGlobals "super" = some none
  ssS : PySem.W.nsIn K cStatics "thirdparty.any" = some none
  top : (P.main.scope.names.lookup ("super" : Str)).isSome = false
  z_abs : PySem.W.nsIn K mainGlobals "abs" = some none
  z_all : PySem.W.nsIn K mainGlobals "all" = some none
  z_bool : PySem.W.nsIn K mainGlobals "bool" = some none
  z_enumerate : PySem.W.nsIn K mainGlobals "enumerate" = some none
  z_int : PySem.W.nsIn K mainGlobals "int" = some none
  z_isinstance : PySem.W.nsIn K mainGlobals "isinstance" = some none
  z_len : PySem.W.nsIn K mainGlobals "len" = some none
  z_list : PySem.W.nsIn K mainGlobals "list" = some none
  z_max : PySem.W.nsIn K mainGlobals "max" = some none
  z_range : PySem.W.nsIn K mainGlobals "range" = some none
  z_sorted : PySem.W.nsIn K mainGlobals "sorted" = some none
  z_str : PySem.W.nsIn K mainGlobals "str" = some none
  z_tuple : PySem.W.nsIn K mainGlobals "tuple" = some none
  z_zip : PySem.W.nsIn K mainGlobals "zip" = some none
theorem all_mk {l : PySem.W.OpenLaw} {w : World} {K : PySem.W.Frag} {h : Heap} {mg : Str → Option Value} {fa : Addr} (X : K.In h) (G : h.Ns mainGlobals mg) (hfa : mg "law" = some (.ref fa)) (Z : Tops K l.prog)
    : ∃ fd : FuncData, (∀ (s : Shared) (v : Value), BindsTo s fd ⟨[v], []⟩ [("script", v)]) ∧ ∀ base : Heap, K.In base → base.Ns mainGlobals mg → FnOk l.prog w K mg base (L2.CX l.prog w) (2 * (20 + 1)) fa fd ["script"] (spLaw K 63) := by
  obtain ⟨f0, fd0, F0, m0⟩ := Z.d0.fn X G
  obtain ⟨f1, fd1, F1, m1⟩ := Z.d1.fn X G
  obtain ⟨f2, fd2, F2, m2⟩ := Z.d2.fn X G
  obtain ⟨f3, fd3, F3, m3⟩ := Z.d3.fn X G
  obtain ⟨f4, fd4, F4, m4⟩ := Z.d4.fn X G
  obtain ⟨f5, fd5, F5, m5⟩ := Z.d5.fn X G
  obtain ⟨f6, fd6, F6, m6⟩ := Z.d6.fn X G
  obtain ⟨f7, fd7, F7, m7⟩ := Z.d7.fn X G
  obtain ⟨f8, fd8, F8, m8⟩ := Z.d8.fn X G
  obtain ⟨f9, fd9, F9, m9⟩ := Z.d9.fn X G
  obtain ⟨f10, fd10, F10, m10⟩ := Z.d10.fn X G
  obtain ⟨f11, fd11, F11, m11⟩ := Z.d11.fn X G
  obtain ⟨f12, fd12, F12, m12⟩ := Z.d12.fn X G
  obtain ⟨f13, fd13, F13, m13⟩ := Z.d13.fn X G
  obtain ⟨f500, fd500, F500, m500⟩ := Z.d500.fn X G
  obtain ⟨f501, fd501, F501, m501⟩ := Z.d501.fn X G
  obtain ⟨f502, fd502, F502, m502⟩ := Z.d502.fn X G
  obtain ⟨f503, fd503, F503, m503⟩ := Z.d503.fn X G
  obtain ⟨f504, fd504, F504, m504⟩ := Z.d504.fn X G
  obtain ⟨f505, fd505, F505, m505⟩ := Z.d505.fn X G
  obtain ⟨f506, fd506, F506, m506⟩ := Z.d506.fn X G
  obtain ⟨f507, fd507, F507, m507⟩ := Z.d507.fn X G
  obtain ⟨f508, fd508, F508, m508⟩ := Z.d508.fn X G
  obtain ⟨f509, fd509, F509, m509⟩ := Z.d509.fn X G
  obtain ⟨f510, fd510, F510, m510⟩ := Z.d510.fn X G
  obtain ⟨f511, fd511, F511, m511⟩ := Z.d511.fn X G
  obtain ⟨f512, fd512, F512, m512⟩ := Z.d512.fn X G
  obtain ⟨C_Table, I_Table, e14, e15, e16, e17, e18, e19, e20, e21, e22, na_Table__layings, na_Table__row, na_Table__setting⟩ := Z.i_Table
  have ca_Table := cAd_of I_Table.1
  obtain ⟨f14, fd14, F14, m14⟩ := e14.fn ca_Table
  obtain ⟨f15, fd15, F15, m15⟩ := e15.fn ca_Table
  obtain ⟨f16, fd16, F16, m16⟩ := e16.fn ca_Table
  obtain ⟨f17, fd17, F17, m17⟩ := e17.fn ca_Table
  obtain ⟨f18, fd18, F18, m18⟩ := e18.fn ca_Table
  obtain ⟨f19, fd19, F19, m19⟩ := e19.fn ca_Table
  obtain ⟨f20, fd20, F20, m20⟩ := e20.fn ca_Table
  obtain ⟨f21, fd21, F21, m21⟩ := e21.fn ca_Table
  obtain ⟨f22, fd22, F22, m22⟩ := e22.fn ca_Table
  rw [← ca_Table] at na_Table__layings
  rw [← ca_Table] at na_Table__row
  rw [← ca_Table] at na_Table__setting
  obtain ⟨C_BadRow, C_BadStep, C_HoweverError, C_NoSuch, x_BadRow, x_BadStep, x_HoweverError, x_NoSuch, r_BadRow, r_BadStep, r_NoSuch, no_BadRow_at, no_BadStep_word, no_NoSuch_name, no_NoSuch_word, s_BadRow_BadRow, s_BadRow_BadStep, s_BadRow_HoweverError, s_BadRow_NoSuch, s_BadStep_BadRow, s_BadStep_BadStep, s_BadStep_HoweverError, s_BadStep_NoSuch, s_NoSuch_BadRow, s_NoSuch_BadStep, s_NoSuch_HoweverError, s_NoSuch_NoSuch, ga_BadRow, gg_BadRow, hd_BadRow, ga_BadStep, gg_BadStep, hd_BadStep, ga_NoSuch, gg_NoSuch, hd_NoSuch⟩ := Z.exc
  have g_BadRow := x_BadRow.gl X G
  have g_BadStep := x_BadStep.gl X G
  have g_HoweverError := x_HoweverError.gl X G
  have g_NoSuch := x_NoSuch.gl X G
  have hsub : SubOk K PD := fun a h b e => by
    have e : subF a h = some b := e
    unfold subF subT at e
    obtain ⟨t, ht, rfl⟩ := Option.map_eq_some_iff.mp e
    have hm := List.mem_of_find?_eq_some ht
    have hp := List.find?_some ht
    simp only [Bool.and_eq_true, decide_eq_true_eq] at hp
    obtain ⟨h1, h2⟩ := hp
    subst h1 h2
    simp only [List.mem_cons, List.not_mem_nil, or_false] at hm
    rcases hm with rfl | rfl | rfl | rfl | rfl | rfl | rfl | rfl | rfl | rfl | rfl | rfl
    · exact exm_of x_BadRow x_BadRow s_BadRow_BadRow
    · exact exm_of x_BadRow x_BadStep s_BadRow_BadStep
    · exact exm_of x_BadRow x_HoweverError s_BadRow_HoweverError
    · exact exm_of x_BadRow x_NoSuch s_BadRow_NoSuch
    · exact exm_of x_BadStep x_BadRow s_BadStep_BadRow
    · exact exm_of x_BadStep x_BadStep s_BadStep_BadStep
    · exact exm_of x_BadStep x_HoweverError s_BadStep_HoweverError
    · exact exm_of x_BadStep x_NoSuch s_BadStep_NoSuch
    · exact exm_of x_NoSuch x_BadRow s_NoSuch_BadRow
    · exact exm_of x_NoSuch x_BadStep s_NoSuch_BadStep
    · exact exm_of x_NoSuch x_HoweverError s_NoSuch_HoweverError
    · exact exm_of x_NoSuch x_NoSuch s_NoSuch_NoSuch
  have fx : ∀ base : Heap, Fx l.prog w K mg base := fun base => {
    cl_Table := I_Table.cls
    na_Table__layings := na_Table__layings
    na_Table__row := na_Table__row
    na_Table__setting := na_Table__setting
    e_BadRow := err_BadRow x_BadRow r_BadRow g_BadRow no_BadRow_at Z.nsS Z.ssS Z.top
    e_BadStep := err_BadStep x_BadStep r_BadStep g_BadStep no_BadStep_word Z.nsS Z.ssS Z.top
    e_NoSuch := err_NoSuch x_NoSuch r_NoSuch g_NoSuch no_NoSuch_word no_NoSuch_name Z.nsS Z.ssS Z.top
    g_BadRow := g_BadRow
    g_BadStep := g_BadStep
    g_HoweverError := g_HoweverError
    g_NoSuch := g_NoSuch
    xf_BadRow := by rw [cAd_of x_BadRow.1]; exact ⟨ga_BadRow, gg_BadRow, x_BadRow.2.1, hd_BadRow⟩
    xf_BadStep := by rw [cAd_of x_BadStep.1]; exact ⟨ga_BadStep, gg_BadStep, x_BadStep.2.1, hd_BadStep⟩
    xf_NoSuch := by rw [cAd_of x_NoSuch.1]; exact ⟨ga_NoSuch, gg_NoSuch, x_NoSuch.2.1, hd_NoSuch⟩
    no_BadRow_at := by rw [cAd_of x_BadRow.1]; exact no_BadRow_at
    no_BadStep_word := by rw [cAd_of x_BadStep.1]; exact no_BadStep_word
    no_NoSuch_name := by rw [cAd_of x_NoSuch.1]; exact no_NoSuch_name
    no_NoSuch_word := by rw [cAd_of x_NoSuch.1]; exact no_NoSuch_word
    sub := hsub
    n_abs := PySem.W.mg_none_of X G Z.z_abs
    n_all := PySem.W.mg_none_of X G Z.z_all
    n_bool := PySem.W.mg_none_of X G Z.z_bool
    n_enumerate := PySem.W.mg_none_of X G Z.z_enumerate
    n_int := PySem.W.mg_none_of X G Z.z_int
    n_isinstance := PySem.W.mg_none_of X G Z.z_isinstance
    n_len := PySem.W.mg_none_of X G Z.z_len
    n_list := PySem.W.mg_none_of X G Z.z_list
    n_max := PySem.W.mg_none_of X G Z.z_max
    n_range := PySem.W.mg_none_of X G Z.z_range
    n_sorted := PySem.W.mg_none_of X G Z.z_sorted
    n_str := PySem.W.mg_none_of X G Z.z_str
    n_tuple := PySem.W.mg_none_of X G Z.z_tuple
    n_zip := PySem.W.mg_none_of X G Z.z_zip }
  have e := hfa.symm.trans m512
  cases e
  have b := F512.binds (ps := ["script"]) fun _ _ _ _ _ _ us hl => match us, hl with | [_], _ => rfl
  obtain ⟨oc, od, kV, doc, pm, an, cdv, ct, osl, rfl, lk, hcd⟩ := F512.ex
  exact ⟨_, fun s v => .of_eq rfl, fun base _ _ => fn_law (w512 (k := 20) (hyp_all (fx base) F0 m0 F1 m1 F2 m2 F3 m3 F4 m4 F5 m5 F6 m6 F7 m7 F8 m8 F9 m9 F10 m10 F11 m11 F12 m12 F13 m13 F14 m14 F15 m15 F16 m16 F17 m17 F18 m18 F19 m19 F20 m20 F21 m21 F22 m22 F500 m500 F501 m501 F502 m502 F503 m503 F504 m504 F505 m505 F506 m506 F507 m507 F508 m508 F509 m509 F510 m510 F511 m511 F512 m512 (I_Table.mk m14) (I_Table.gl X G) 20) F512) rfl law⟩
end K93
open PySem PySem.W PyProof.Rows
set_option maxHeartbeats 0 in
theorem PySem.Challenge.cw_howeverlaid_k93_whole_tables_holds : PySem.Challenge.rw_howeverlaid_k93_whole_tables.Holds := by
  w_on; o_law; k_head; (case hw => w_witness2)
  k_fill
  refine L2.walk_of (l := PySem.Challenge.rw_howeverlaid_k93_whole_tables) (n := 63) (k := 2 * (20 + 1)) (x := "script") (CX := fun w => L2.CX PySem.Challenge.rw_howeverlaid_k93_whole_tables.prog w) (sp := fun w => Fw.spLaw _ 63) rfl (by decide) rfl ⟨rfl, by decide, by decide⟩ (fun w h Y => PySem.W.kIn_of Y) ?F (fun _ _ a ns hl _ hS => ⟨a, ns, rfl, hS, hl, fun _ => rfl⟩) (fun _ _ _ _ _ h => by obtain ⟨_, _, _, _, _, _, _, _, _, _, _, _, q⟩ := h; exact q)
  case F =>
    intro w mg fa h KX G hmg
    refine' K93.all_mk KX G hmg ⟨(Fw.DefAt.mk' ?a0 ?l0 ?c0 ?k0), (Fw.DefAt.mk' ?a1 ?l1 ?c1 ?k1), (Fw.DefAt.mk' ?a2 ?l2 ?c2 ?k2), (Fw.DefAt.mk' ?a3 ?l3 ?c3 ?k3), (Fw.DefAt.mk' ?a4 ?l4 ?c4 ?k4), (Fw.DefAt.mk' ?a5 ?l5 ?c5 ?k5), (Fw.DefAt.mk' ?a6 ?l6 ?c6 ?k6), (Fw.DefAt.mk' ?a7 ?l7 ?c7 ?k7), (Fw.DefAt.mk' ?a8 ?l8 ?c8 ?k8), (Fw.DefAt.mk' ?a9 ?l9 ?c9 ?k9), (Fw.DefAt.mk' ?a10 ?l10 ?c10 ?k10), (Fw.DefAt.mk' ?a11 ?l11 ?c11 ?k11), (Fw.DefAt.mk' ?a12 ?l12 ?c12 ?k12), (Fw.DefAt.mk' ?a13 ?l13 ?c13 ?k13), (Fw.DefAt.mk' ?a500 ?l500 ?c500 ?k500), (Fw.DefAt.mk' ?a501 ?l501 ?c501 ?k501), (Fw.DefAt.mk' ?a502 ?l502 ?c502 ?k502), (Fw.DefAt.mk' ?a503 ?l503 ?c503 ?k503), (Fw.DefAt.mk' ?a504 ?l504 ?c504 ?k504), (Fw.DefAt.mk' ?a505 ?l505 ?c505 ?k505), (Fw.DefAt.mk' ?a506 ?l506 ?c506 ?k506), (Fw.DefAt.mk' ?a507 ?l507 ?c507 ?k507), (Fw.DefAt.mk' ?a508 ?l508 ?c508 ?k508), (Fw.DefAt.mk' ?a509 ?l509 ?c509 ?k509), (Fw.DefAt.mk' ?a510 ?l510 ?c510 ?k510), (Fw.DefAt.mk' ?a511 ?l511 ?c511 ?k511), (Fw.DefAt.mk' ?a512 ?l512 ?c512 ?k512), (Fw.ex_mk ⟨⟨?nsTable, ?pgTable, ?hdTable, ?poTable, ?saTable, ?mkTable, ?kcTable⟩, (Fw.MethAt.mk' ?a14 ?i14 ?l14 ?c14 ?k14), (Fw.MethAt.mk' ?a15 ?i15 ?l15 ?c15 ?k15), (Fw.MethAt.mk' ?a16 ?i16 ?l16 ?c16 ?k16), (Fw.MethAt.mk' ?a17 ?i17 ?l17 ?c17 ?k17), (Fw.MethAt.mk' ?a18 ?i18 ?l18 ?c18 ?k18), (Fw.MethAt.mk' ?a19 ?i19 ?l19 ?c19 ?k19), (Fw.MethAt.mk' ?a20 ?i20 ?l20 ?c20 ?k20), (Fw.MethAt.mk' ?a21 ?i21 ?l21 ?c21 ?k21), (Fw.MethAt.mk' ?a22 ?i22 ?l22 ?c22 ?k22), ?naTable_layings, ?naTable_row, ?naTable_setting⟩), (Fw.ex_mk (Fw.ex_mk (Fw.ex_mk (Fw.ex_mk ⟨⟨?xnBadRow, ?xeBadRow, ?xiBadRow, ?xtBadRow⟩, ⟨?xnBadStep, ?xeBadStep, ?xiBadStep, ?xtBadStep⟩, ⟨?xnHoweverError, ?xeHoweverError, ?xiHoweverError, ?xtHoweverError⟩, ⟨?xnNoSuch, ?xeNoSuch, ?xiNoSuch, ?xtNoSuch⟩, (Fw.ErrAt.mk' ?xLBadRow ?rvBadRow ?saBadRow ?gaBadRow ?ggBadRow ?a1BadRow ?t1BadRow ?l1BadRow ?c1BadRow ?lcBadRow ?lcdBadRow ?v2BadRow ?hfBadRow ?supBadRow ?veBadRow ?selfBadRow ?hdBadRow ?kpBadRow), (Fw.ErrAt.mk' ?xLBadStep ?rvBadStep ?saBadStep ?gaBadStep ?ggBadStep ?a1BadStep ?t1BadStep ?l1BadStep ?c1BadStep ?lcBadStep ?lcdBadStep ?v2BadStep ?hfBadStep ?supBadStep ?veBadStep ?selfBadStep ?hdBadStep ?kpBadStep), (Fw.ErrAt.mk' ?xLNoSuch ?rvNoSuch ?saNoSuch ?gaNoSuch ?ggNoSuch ?a1NoSuch ?t1NoSuch ?l1NoSuch ?c1NoSuch ?lcNoSuch ?lcdNoSuch ?v2NoSuch ?hfNoSuch ?supNoSuch ?veNoSuch ?selfNoSuch ?hdNoSuch ?kpNoSuch), ?noBadRowat, ?noBadStepword, ?noNoSuchname, ?noNoSuchword, ?sBadRowBadRow, ?sBadRowBadStep, ?sBadRowHoweverError, ?sBadRowNoSuch, ?sBadStepBadRow, ?sBadStepBadStep, ?sBadStepHoweverError, ?sBadStepNoSuch, ?sNoSuchBadRow, ?sNoSuchBadStep, ?sNoSuchHoweverError, ?sNoSuchNoSuch, ?ygaBadRow, ?yggBadRow, ?yhdBadRow, ?ygaBadStep, ?yggBadStep, ?yhdBadStep, ?ygaNoSuch, ?yggNoSuch, ?yhdNoSuch⟩)))), ?nsS, ?ssS, ?topS, ?zabs, ?zall, ?zbool, ?zenumerate, ?zint, ?zisinstance, ?zlen, ?zlist, ?zmax, ?zrange, ?zsorted, ?zstr, ?ztuple, ?zzip⟩
    (case a0 => k_is); (case l0 => k_is); (case c0 => k_is); (case k0 => k_is)
    (case a1 => k_is); (case l1 => k_is); (case c1 => k_is); (case k1 => k_is)
    (case a2 => k_is); (case l2 => k_is); (case c2 => k_is); (case k2 => k_is)
    (case a3 => k_is); (case l3 => k_is); (case c3 => k_is); (case k3 => k_is)
    (case a4 => k_is); (case l4 => k_is); (case c4 => k_is); (case k4 => k_is)
    (case a5 => k_is); (case l5 => k_is); (case c5 => k_is); (case k5 => k_is)
    (case a6 => k_is); (case l6 => k_is); (case c6 => k_is); (case k6 => k_is)
    (case a7 => k_is); (case l7 => k_is); (case c7 => k_is); (case k7 => k_is)
    (case a8 => k_is); (case l8 => k_is); (case c8 => k_is); (case k8 => k_is)
    (case a9 => k_is); (case l9 => k_is); (case c9 => k_is); (case k9 => k_is)
    (case a10 => k_is); (case l10 => k_is); (case c10 => k_is); (case k10 => k_is)
    (case a11 => k_is); (case l11 => k_is); (case c11 => k_is); (case k11 => k_is)
    (case a12 => k_is); (case l12 => k_is); (case c12 => k_is); (case k12 => k_is)
    (case a13 => k_is); (case l13 => k_is); (case c13 => k_is); (case k13 => k_is)
    (case a500 => k_is); (case l500 => k_is); (case c500 => k_is); (case k500 => k_is)
    (case a501 => k_is); (case l501 => k_is); (case c501 => k_is); (case k501 => k_is)
    (case a502 => k_is); (case l502 => k_is); (case c502 => k_is); (case k502 => k_is)
    (case a503 => k_is); (case l503 => k_is); (case c503 => k_is); (case k503 => k_is)
    (case a504 => k_is); (case l504 => k_is); (case c504 => k_is); (case k504 => k_is)
    (case a505 => k_is); (case l505 => k_is); (case c505 => k_is); (case k505 => k_is)
    (case a506 => k_is); (case l506 => k_is); (case c506 => k_is); (case k506 => k_is)
    (case a507 => k_is); (case l507 => k_is); (case c507 => k_is); (case k507 => k_is)
    (case a508 => k_is); (case l508 => k_is); (case c508 => k_is); (case k508 => k_is)
    (case a509 => k_is); (case l509 => k_is); (case c509 => k_is); (case k509 => k_is)
    (case a510 => k_is); (case l510 => k_is); (case c510 => k_is); (case k510 => k_is)
    (case a511 => k_is); (case l511 => k_is); (case c511 => k_is); (case k511 => k_is)
    (case a512 => k_is); (case l512 => k_is); (case c512 => k_is); (case k512 => k_is)
    (case nsTable => k_is); (case pgTable => k_is); (case hdTable => k_is); (case poTable => k_is); (case saTable => k_is); (case mkTable => k_is); (case kcTable => k_is); (case a14 => k_is); (case i14 => k_is); (case l14 => k_is); (case c14 => k_is); (case k14 => k_is); (case a15 => k_is); (case i15 => k_is); (case l15 => k_is); (case c15 => k_is); (case k15 => k_is); (case a16 => k_is); (case i16 => k_is); (case l16 => k_is); (case c16 => k_is); (case k16 => k_is); (case a17 => k_is); (case i17 => k_is); (case l17 => k_is); (case c17 => k_is); (case k17 => k_is); (case a18 => k_is); (case i18 => k_is); (case l18 => k_is); (case c18 => k_is); (case k18 => k_is); (case a19 => k_is); (case i19 => k_is); (case l19 => k_is); (case c19 => k_is); (case k19 => k_is); (case a20 => k_is); (case i20 => k_is); (case l20 => k_is); (case c20 => k_is); (case k20 => k_is); (case a21 => k_is); (case i21 => k_is); (case l21 => k_is); (case c21 => k_is); (case k21 => k_is); (case a22 => k_is); (case i22 => k_is); (case l22 => k_is); (case c22 => k_is); (case k22 => k_is); (case naTable_layings => k_is); (case naTable_row => k_is); (case naTable_setting => k_is)
    (case xnBadRow => k_is); (case xeBadRow => k_is); (case xiBadRow => k_is); (case xtBadRow => k_is); (case xnBadStep => k_is); (case xeBadStep => k_is); (case xiBadStep => k_is); (case xtBadStep => k_is); (case xnHoweverError => k_is); (case xeHoweverError => k_is); (case xiHoweverError => k_is); (case xtHoweverError => k_is); (case xnNoSuch => k_is); (case xeNoSuch => k_is); (case xiNoSuch => k_is); (case xtNoSuch => k_is); (case xLBadRow => k_is); (case rvBadRow => first | rfl | decide +kernel); (case saBadRow => k_is); (case gaBadRow => k_is); (case ggBadRow => k_is); (case a1BadRow => k_is); (case t1BadRow => k_is); (case l1BadRow => k_is); (case c1BadRow => k_is); (case lcBadRow => k_is); (case lcdBadRow => k_is); (case v2BadRow => rfl); (case hfBadRow => first | rfl | decide +kernel); (case supBadRow => ks_is); (case veBadRow => k_is); (case selfBadRow => k_is); (case hdBadRow => k_is); (case kpBadRow => k_is); (case xLBadStep => k_is); (case rvBadStep => first | rfl | decide +kernel); (case saBadStep => k_is); (case gaBadStep => k_is); (case ggBadStep => k_is); (case a1BadStep => k_is); (case t1BadStep => k_is); (case l1BadStep => k_is); (case c1BadStep => k_is); (case lcBadStep => k_is); (case lcdBadStep => k_is); (case v2BadStep => rfl); (case hfBadStep => first | rfl | decide +kernel); (case supBadStep => ks_is); (case veBadStep => k_is); (case selfBadStep => k_is); (case hdBadStep => k_is); (case kpBadStep => k_is); (case xLNoSuch => k_is); (case rvNoSuch => first | rfl | decide +kernel); (case saNoSuch => k_is); (case gaNoSuch => k_is); (case ggNoSuch => k_is); (case a1NoSuch => k_is); (case t1NoSuch => k_is); (case l1NoSuch => k_is); (case c1NoSuch => k_is); (case lcNoSuch => k_is); (case lcdNoSuch => k_is); (case v2NoSuch => rfl); (case hfNoSuch => first | rfl | decide +kernel); (case supNoSuch => ks_is); (case veNoSuch => k_is); (case selfNoSuch => k_is); (case hdNoSuch => k_is); (case kpNoSuch => k_is); (case noBadRowat => k_is); (case noBadStepword => k_is); (case noNoSuchname => k_is); (case noNoSuchword => k_is); (case sBadRowBadRow => k_is); (case sBadRowBadStep => k_is); (case sBadRowHoweverError => k_is); (case sBadRowNoSuch => k_is); (case sBadStepBadRow => k_is); (case sBadStepBadStep => k_is); (case sBadStepHoweverError => k_is); (case sBadStepNoSuch => k_is); (case sNoSuchBadRow => k_is); (case sNoSuchBadStep => k_is); (case sNoSuchHoweverError => k_is); (case sNoSuchNoSuch => k_is); (case ygaBadRow => k_is); (case yggBadRow => k_is); (case yhdBadRow => k_is); (case ygaBadStep => k_is); (case yggBadStep => k_is); (case yhdBadStep => k_is); (case ygaNoSuch => k_is); (case yggNoSuch => k_is); (case yhdNoSuch => k_is)
    (case nsS => k_is)
    (case ssS => k_is)
    (case topS => first | rfl | decide +kernel)
    (case zabs => k_is)
    (case zall => k_is)
    (case zbool => k_is)
    (case zenumerate => k_is)
    (case zint => k_is)
    (case zisinstance => k_is)
    (case zlen => k_is)
    (case zlist => k_is)
    (case zmax => k_is)
    (case zrange => k_is)
    (case zsorted => k_is)
    (case zstr => k_is)
    (case ztuple => k_is)
    (case zzip => k_is)
