import PyProof.Rows.All
import Wide.All
import OpenK.AllK
import Wide.FinOn
import HandS.ForMost
import HandS.Base
import HandS.Call
import HandS.List
import HandS.Comp
import HandS.Text
import HandS.Conv
import HandS.IsInst
import HandS.Zip
import HandS.TupAny
import HandS.TupMul
import HandS.Deep
import KE.SortKeyHeap
import HandS.SortKw
import PySem.Challenge.RW_howeverlaid_k92_whole_words
set_option Elab.async false
set_option linter.all false
set_option maxRecDepth 1000000
set_option maxHeartbeats 4000000
/-! Fw, part A: plain data, a small syntax of our own, and its evaluator. -/
namespace Fw
open PySem

/-- plain data: tuples and lists by value, changing objects by number -/
inductive D where
  | non | bl (b : Bool) | int (i : Int) | str (x : Str)
  | tup (xs : List D) | lst (xs : List D) | scr (xs : List Int) | obj (n : Nat)

/-- a changing object; fT: a dict that is not changed any more -/
inductive Ob where
  | lst (xs : List D) | dK (kvs : List (L2.Key × D)) | dT (kvs : List (List L2.Key × D)) | fT (kvs : List (List L2.Key × D))

abbrev Sto := List (Option Ob)
abbrev En := List (Option D)

mutual
def D.cl : D → Bool
  | .obj _ => false
  | .tup xs => clL xs
  | .lst xs => clL xs
  | .non => true
  | .bl _ => true
  | .int _ => true
  | .str _ => true
  | .scr _ => true
def clL : List D → Bool
  | [] => true
  | d :: ds => d.cl && clL ds
end

def getO (s : Sto) (n : Nat) : Option Ob := s[n]?.getD none
def setO (s : Sto) (n : Nat) (o : Option Ob) : Sto := s.set n o

/-- operators -/
inductive Op where | add | sub | mul | fdiv | mod | pow | shl
inductive Cp where | eq | ne | lt | le | gt | ge | isN | notN | isin
inductive Ty where | tuple | list | str | int | bool
inductive B1 where | len | abs | int | bool | sum | tup | lst

mutual
inductive E where
  | var (i : Nat) | non | bl (b : Bool) | int (i : Int) | str (x : Str)
  | tup (es : Es) | lst (es : Es) | newL (es : Es) | newK | newT | disp (ks : List Str) (es : Es)
  | bin (o : Op) (a b : E) | cmp (o : Cp) (a b : E) | chn (o p : Cp) (a b c : E)
  | not (a : E) | and (a b : E) | or (a b : E) | ife (t : T) (a b : E)
  | idx (a b : E) | dget (a k : E) | dnin (k a : E) | din (k a : E) | slc (a : E) (lo hi : Oe)
  | call (p : Bool) (i : Nat) (es : Es) | callK (p : Bool) (i : Nat) (perm : List Nat) (es ks : Es)
  | b1 (f : B1) (a : E) | newLst (a : E) | tupRg (a : E) | max2 (a b : E) | isI (a : E) (c : Ty) | join (a b : E)
  | pop (a : E) | popAt (a b : E) | app (a b : E) | ext (a b : E)
  | newSort (a : E)
  | lc (g : G) (it : It) (t : T) (e : E) (own : List Nat)
inductive Es where | nil | cons (e : E) (es : Es)
inductive Oe where | none | some (e : E)
inductive T where | tru (e : E) | val (e : E) | and (a b : T) | or (a b : T) | not (a : T) | yes
inductive It where | seq (e : E) | rng1 (e : E) | rng2 (a b : E) | zip (a b : E) | keys (i : Nat)
inductive G where | name (i : Nat) | tup (gs : Gs)
inductive Gs where | nil | cons (g : G) (gs : Gs)
end

mutual
inductive S where
  | asg (g : G) (e : E) | par (i j : Nat) (a b : E) | seti (o i e : E) | dput (o k e : E) | expr (e : E) | ret (e : E)
  | ife (t : T) (a b : Ss) | whl (t : T) (b : Ss) | for_ (g : G) (it : It) (b : Ss) | never | pass | brk | cont
inductive Ss where | nil | cons (s : S) (ss : Ss) | frz (i : Nat) (ss : Ss)
end

def Es.of : List E → Es
  | [] => .nil
  | e :: r => .cons e (Es.of r)
def Ss.of : List S → Ss
  | [] => .nil
  | e :: r => .cons e (Ss.of r)
def Gs.of : List G → Gs
  | [] => .nil
  | e :: r => .cons e (Gs.of r)

def Es.n : Es → Nat
  | .nil => 0
  | .cons _ r => r.n + 1
/-- arguments and keywords' values in the parameters' order -/
def permL {α : Type} (d : α) (na : Nat) (perm : List Nat) (us ws : List α) : List α := if us.length = na ∧ na + ws.length = perm.length then perm.map fun j => (us ++ ws).getD j d else []

/-- the sizes that we let -/
abbrev ZL : Nat := 1000000

def scalEq : D → D → Option Bool
  | .non, .non => some true
  | .non, .int _ => some false
  | .int _, .non => some false
  | .non, .bl _ => some false
  | .bl _, .non => some false
  | .non, .str _ => some false
  | .str _, .non => some false
  | .int i, .int j => some (i == j)
  | .bl i, .bl j => some (i == j)
  | .str i, .str j => some (i == j)
  | .int _, .str _ => some false
  | .str _, .int _ => some false
  | .bl _, .str _ => some false
  | .str _, .bl _ => some false
  | _, _ => none

mutual
def D.toP : D → Option PyData
  | .non => some .none
  | .bl b => some (.bool b)
  | .int i => some (.int i)
  | .str x => some (.str x)
  | .tup xs => (toPL xs).map .tuple
  | .lst xs => (toPL xs).map .list
  | .scr _ => none
  | .obj _ => none
def toPL : List D → Option (List PyData)
  | [] => some []
  | d :: ds => match d.toP, toPL ds with
    | some p, some ps => some (p :: ps)
    | _, _ => none
end

def evBin : Op → D → D → Option D
  | .add, .int i, .int j => some (.int (i + j))
  | .add, .str i, .str j => if i.length + j.length ≤ ZL then some (.str (i ++ j)) else none
  | .add, .tup a, .tup b => if a.length + b.length ≤ ZL then some (.tup (a ++ b)) else none
  | .add, .lst a, .lst b => if a.length + b.length ≤ ZL then some (.lst (a ++ b)) else none
  | .sub, .int i, .int j => some (.int (i - j))
  | .mul, .int i, .int j => if (-(2 ^ 64) < i ∧ i < 2 ^ 64) ∨ (-(2 ^ 64) < j ∧ j < 2 ^ 64) then some (.int (i * j)) else none
  | .mul, .tup a, .int k => if a ≠ [] ∧ 1 ≤ k ∧ k ≤ 1000 ∧ a.length ≤ 1000 then some (.tup (List.replicate k.toNat a).flatten) else none
  | .fdiv, .int i, .int j => if j ≠ 0 ∧ j.natAbs < 1073741824 then some (.int (i.fdiv j)) else none
  | .mod, .int i, .int j => if j ≠ 0 then some (.int (i.fmod j)) else none
  | .pow, .int i, .int j => if 0 ≤ j ∧ j ≤ 1000000 ∧ i.natAbs < 2 ^ 64 then some (.int (i ^ j.toNat)) else none
  | .shl, .int i, .int j => if 0 ≤ j ∧ j ≤ 1000000 ∧ i.natAbs < 2 ^ 64 then some (.int (i * 2 ^ j.toNat)) else none
  | _, _, _ => none

def flatD : D → Bool
  | .non => true
  | .bl _ => true
  | .int _ => true
  | .str _ => true
  | _ => false
/-- == of flat things, as in x in xs -/
def eqFD : D → D → Bool
  | .non, .non => true
  | .bl a, .bl b => a == b
  | .bl a, .int b => (if a then 1 else 0) == b
  | .int a, .bl b => a == (if b then 1 else 0)
  | .int a, .int b => a == b
  | .str a, .str b => a == b
  | _, _ => false
def seqD : D → Option (List D)
  | .tup xs => some xs
  | .lst xs => some xs
  | _ => none
def inD (x y : D) : Option Bool :=
  match seqD y with
  | some ys =>
    if flatD x = true ∧ ys.all flatD = true then some (ys.any fun z => eqFD z x)
    else match y, x.toP, y.toP with
      | .lst _, some p, some (.list ps) => if SeqAt.shaped p = true ∧ SeqAt.shaped (.list ps) = true then some (ps.any fun z => PyData.eqv z p) else none
      | _, _, _ => none
  | none => none

def evCmp : Cp → D → D → Option Bool
  | .eq, x, y => scalEq x y
  | .ne, x, y => (scalEq x y).map (!·)
  | .lt, .int i, .int j => some (decide (i < j))
  | .le, .int i, .int j => some (decide (i ≤ j))
  | .gt, .int i, .int j => some (decide (j < i))
  | .ge, .int i, .int j => some (decide (j ≤ i))
  | .isN, x, .non => match x with
    | .non => some true
    | _ => some false
  | .notN, x, .non => match x with
    | .non => some false
    | _ => some true
  | .isin, x, y => inD x y
  | _, _, _ => none

def toKey : D → Option L2.Key
  | .int i => some (.inl i)
  | .str x => some (.inr x)
  | _ => none
def toKeys : List D → Option (List L2.Key)
  | [] => some []
  | d :: ds => match toKey d, toKeys ds with
    | some k, some ks => some (k :: ks)
    | _, _ => none
def ofKey : L2.Key → D
  | .inl i => .int i
  | .inr x => .str x
section
variable {κ : Type} [DecidableEq κ]
def lookD (kvs : List (κ × D)) (k : κ) : Option D := (kvs.find? fun kv => decide (kv.1 = k)).map (·.2)
def putD (kvs : List (κ × D)) (k : κ) (d : D) : List (κ × D) :=
  if (kvs.any fun kv => decide (kv.1 = k)) = true then kvs.map (fun kv => if kv.1 = k then (kv.1, d) else kv) else kvs ++ [(k, d)]
def mergeD (kvs more : List (κ × D)) : List (κ × D) := more.foldl (fun acc kv => putD acc kv.1 kv.2) kvs
end

/-- what a dict has for a key: none: no such dict or key's kind -/
def dLook (s : Sto) (a k : D) : Option (Option D) :=
  match a with
  | .obj n => match getO s n with
    | some (.dK kvs) => (toKey k).map (lookD kvs)
    | some (.dT kvs) => match k with
      | .tup ds => (toKeys ds).map (lookD kvs)
      | _ => none
    | some (.fT kvs) => match k with
      | .tup ds => (toKeys ds).map (lookD kvs)
      | _ => none
    | _ => none
  | _ => none

def lenD (s : Sto) : D → Option Nat
  | .tup xs => some xs.length
  | .lst xs => some xs.length
  | .scr xs => some xs.length
  | .str x => if x.length ≤ ZL then some x.length else none
  | .obj n => match getO s n with
    | some (.lst xs) => some xs.length
    | _ => none
  | _ => none
def sumD : List D → Option Int
  | [] => some 0
  | .int i :: r => (sumD r).map (i + ·)
  | _ => none
def listD (s : Sto) : D → Option (List D)
  | .tup xs => some xs
  | .lst xs => some xs
  | .obj n => match getO s n with
    | some (.lst xs) => some xs
    | _ => none
  | _ => none
def evB1 (s : Sto) : B1 → D → Option D
  | .len, d => (lenD s d).map fun (n : Nat) => D.int (n : Int)
  | .abs, .int i => some (.int (if i < 0 then -i else i))
  | .int, .int i => some (.int i)
  | .int, .bl b => some (.int (if b then 1 else 0))
  | .bool, .int i => some (.bl (i != 0))
  | .bool, .bl b => some (.bl b)
  | .sum, .lst xs => (sumD xs).map .int
  | .tup, d => (listD s d).map .tup
  | .lst, d => (listD s d).map .lst
  | _, _ => none
def truD (s : Sto) : D → Option Bool
  | .non => some false
  | .bl b => some b
  | .int i => some (i != 0)
  | .str x => if x.length ≤ ZL then some ((x.length : Int) != 0) else none
  | .tup xs => some (!xs.isEmpty)
  | .lst xs => some (!xs.isEmpty)
  | .obj n => match getO s n with
    | some (.lst xs) => some (!xs.isEmpty)
    | _ => none
  | _ => none
def isID (s : Sto) : D → Ty → Option Bool
  | .non, _ => some false
  | .bl _, .bool => some true
  | .bl _, .int => some true
  | .bl _, _ => some false
  | .int _, .int => some true
  | .int _, _ => some false
  | .str _, .str => some true
  | .str _, _ => some false
  | .tup _, .tuple => some true
  | .tup _, _ => some false
  | .lst _, .list => some true
  | .lst _, _ => some false
  | .scr _, _ => none
  | .obj n, c => match getO s n with
    | some (.lst _) => some (match c with | .list => true | _ => false)
    | some (.dK _) => some false
    | some (.dT _) => some false
    | _ => none
def strsD : List D → Option (List Str)
  | [] => some []
  | .str x :: r => (strsD r).map (x :: ·)
  | _ => none
def atD (s : Sto) : D → D → Option D
  | .tup xs, .int i => L2.atI xs i
  | .lst xs, .int i => L2.atI xs i
  | .scr xs, .int i => (L2.atI xs i).map .int
  | .obj n, .int i => match getO s n with
    | some (.lst xs) => L2.atI xs i
    | _ => none
  | _, _ => none
def cutD {α : Type} (xs : List α) (lo hi : Option Int) : List α := (xs.drop (HT.sIx xs.length 0 lo)).take (HT.sIx xs.length xs.length hi - HT.sIx xs.length 0 lo)
def slcD : D → Option Int → Option Int → Option D
  | .tup xs, lo, hi => some (.tup (cutD xs lo hi))
  | .lst xs, lo, hi => some (.lst (cutD xs lo hi))
  | .scr xs, lo, hi => some (.lst ((cutD xs lo hi).map .int))
  | _, _, _ => none
def rgD (n : Int) : List D := (List.range n.toNat).map fun (i : Nat) => D.int (i : Int)
def rg2D (a b : Int) : List D := (List.range (b - a).toNat).map fun (i : Nat) => D.int (a + (i : Int))

mutual
def asgG : G → D → En → Option En
  | .name i, d, env => some (env.set i (some d))
  | .tup gs, d, env => match d with
    | .tup ds => asgGs gs ds env
    | _ => none
def asgGs : Gs → List D → En → Option En
  | .nil, [], env => some env
  | .cons g gs, d :: ds, env => (asgG g d env).bind fun e1 => asgGs gs ds e1
  | _, _, _ => none
end
mutual
def G.slots : G → List Nat
  | .name i => [i]
  | .tup gs => gs.slots
def Gs.slots : Gs → List Nat
  | .nil => []
  | .cons g gs => g.slots ++ gs.slots
end
def wipeD (env : En) : List Nat → En
  | [] => env
  | v :: vs => (wipeD env vs).set v none

/-- what is gone through -/
inductive Src where | vals (l : List D) | objl (n : Nat) (k : Nat)
def seqSrc (s : Sto) : D → Option Src
  | .tup xs => some (.vals xs)
  | .lst xs => some (.vals xs)
  | .scr xs => some (.vals (xs.map .int))
  | .obj n => match getO s n with
    | some (.lst xs) => some (.objl n xs.length)
    | _ => none
  | _ => none
def zipSrc : D → D → Option Src
  | .tup xs, .tup ys => if xs.length = ys.length then some (.vals (List.zipWith (fun x y => D.tup [x, y]) xs ys)) else none
  | _, _ => none

/-- what the defs are worth; how many turns a while has at most -/
structure Cc where
  fn : Nat → List D → Sto → Option (D × Sto)
  wf : Nat
  bs : Nat
def Cc.run (C : Cc) (p : Bool) (i : Nat) (ds : List D) (s : Sto) : Option (D × Sto) :=
  match p with
  | true => if clL ds = true then match C.fn i ds [] with
      | some (d, _) => if d.cl = true then some (d, s) else none
      | none => none
    else none
  | false => C.fn i ds s

def lcV (f : D → Sto → Option (Option D × Sto)) : List D → Sto → Option (List D × Sto)
  | [], s => some ([], s)
  | d :: ds, s => (f d s).bind fun p => (lcV f ds p.2).bind fun q => some (match p.1 with | some x => x :: q.1 | none => q.1, q.2)
def lcO (n : Nat) (f : D → Sto → Option (Option D × Sto)) : Nat → Nat → Sto → Option (List D × Sto)
  | 0, i, s => match getO s n with
    | some (.lst xs) => if xs.length ≤ i then some ([], s) else none
    | _ => none
  | m + 1, i, s => match getO s n with
    | some (.lst xs) => match xs[i]? with
      | some d => (f d s).bind fun p => (lcO n f m (i + 1) p.2).bind fun q => some (match p.1 with | some x => x :: q.1 | none => q.1, q.2)
      | none => none
    | _ => none
def srcGo (f : D → Sto → Option (Option D × Sto)) : Src → Sto → Option (List D × Sto)
  | .vals l, s => if l.length ≤ ZL then lcV f l s else none
  | .objl n k, s => if k ≤ ZL then lcO n f k 0 s else none
/-- sorted by an int key, equal ones keep their turns -/
def sortK {α : Type} (l : List (Int × α)) : List (Int × α) := l.mergeSort fun p q => decide (p.1 ≤ q.1)
/-- tuples by their first, an int -/
def keysOf : List D → Option (List (Int × D))
  | [] => some []
  | d :: r => match d with
    | .tup (.int k :: _) => (keysOf r).map ((k, d) :: ·)
    | _ => none

mutual
def evE (C : Cc) (env : En) : E → Sto → Option (D × Sto)
  | .var i, s => match env[i]? with
    | some (some d) => some (d, s)
    | _ => none
  | .non, s => some (.non, s)
  | .bl b, s => some (.bl b, s)
  | .int i, s => some (.int i, s)
  | .str x, s => some (.str x, s)
  | .tup es, s => (evEs C env es s).bind fun p => if p.1.length ≤ ZL then some (.tup p.1, p.2) else none
  | .lst es, s => (evEs C env es s).bind fun p => if p.1.length ≤ ZL then some (.lst p.1, p.2) else none
  | .newL es, s => (evEs C env es s).bind fun p => if p.1.length ≤ ZL then some (.obj p.2.length, p.2 ++ [some (.lst p.1)]) else none
  | .newK, s => some (.obj s.length, s ++ [some (.dK [])])
  | .newT, s => some (.obj s.length, s ++ [some (.dT [])])
  | .disp ks es, s => (evEs C env es s).bind fun p => if p.1.length = ks.length ∧ ks.length ≤ 15 then some (.obj p.2.length, p.2 ++ [some (.dK (mergeD [] ((ks.map Sum.inr).zip p.1)))]) else none
  | .bin o a b, s => (evE C env a s).bind fun p => (evE C env b p.2).bind fun q => (evBin o p.1 q.1).map fun d => (d, q.2)
  | .cmp o a b, s => (evE C env a s).bind fun p => (evE C env b p.2).bind fun q => (evCmp o p.1 q.1).map fun r => (.bl r, q.2)
  | .chn o o' a b c, s => (evE C env a s).bind fun p => (evE C env b p.2).bind fun q => (evCmp o p.1 q.1).bind fun r =>
      if r = true then (evE C env c q.2).bind fun u => (evCmp o' q.1 u.1).map fun r' => (.bl r', u.2) else some (.bl false, q.2)
  | .not a, s => (evE C env a s).bind fun p => match p.1 with
    | .bl b => some (.bl (!b), p.2)
    | _ => none
  | .and a b, s => (evE C env a s).bind fun p => match p.1 with
    | .bl true => evE C env b p.2
    | .bl false => some (.bl false, p.2)
    | _ => none
  | .or a b, s => (evE C env a s).bind fun p => match p.1 with
    | .bl true => some (.bl true, p.2)
    | .bl false => evE C env b p.2
    | _ => none
  | .ife t a b, s => (evT C env t s).bind fun p => match p.1 with
    | true => evE C env a p.2
    | false => evE C env b p.2
  | .idx a b, s => (evE C env a s).bind fun p => (evE C env b p.2).bind fun q => (atD q.2 p.1 q.1).map fun d => (d, q.2)
  | .dget a k, s => (evE C env a s).bind fun p => (evE C env k p.2).bind fun q => match dLook q.2 p.1 q.1 with
    | some (some d) => some (d, q.2)
    | _ => none
  | .din k a, s => (evE C env k s).bind fun p => (evE C env a p.2).bind fun q => (dLook q.2 q.1 p.1).map fun o => (.bl o.isSome, q.2)
  | .dnin k a, s => (evE C env k s).bind fun p => (evE C env a p.2).bind fun q => (dLook q.2 q.1 p.1).map fun o => (.bl (!o.isSome), q.2)
  | .slc a lo hi, s => (evE C env a s).bind fun p => (evOe C env lo p.2).bind fun q => (evOe C env hi q.2).bind fun r => (slcD p.1 q.1 r.1).map fun d => (d, r.2)
  | .call p i es, s => (evEs C env es s).bind fun q => C.run p i q.1 q.2
  | .callK p i perm es ks, s => (evEs C env es s).bind fun q => (evEs C env ks q.2).bind fun r => C.run p i (permL .non es.n perm q.1 r.1) r.2
  | .b1 f a, s => (evE C env a s).bind fun p => (evB1 p.2 f p.1).map fun d => (d, p.2)
  | .newLst a, s => (evE C env a s).bind fun p => (listD p.2 p.1).map fun ds => (.obj p.2.length, p.2 ++ [some (.lst ds)])
  | .tupRg a, s => (evE C env a s).bind fun p => match p.1 with
    | .int n => if 0 ≤ n ∧ n ≤ ZL then some (.tup (rgD n), p.2) else none
    | _ => none
  | .max2 a b, s => (evE C env a s).bind fun p => (evE C env b p.2).bind fun q => match p.1, q.1 with
    | .int i, .int j => some (.int (if j > i then j else i), q.2)
    | _, _ => none
  | .isI a c, s => (evE C env a s).bind fun p => (isID p.2 p.1 c).map fun b => (.bl b, p.2)
  | .join a b, s => (evE C env a s).bind fun p => (evE C env b p.2).bind fun q => match p.1, q.1 with
    | .str x, .lst ds => (strsD ds).bind fun ys => if (ys.map (·.length)).sum + ys.length * x.length ≤ ZL then some (.str (Txt.join x ys), q.2) else none
    | _, _ => none
  | .pop a, s => (evE C env a s).bind fun p => match p.1 with
    | .obj n => match getO p.2 n with
      | some (.lst xs) => match xs[xs.length - 1]? with
        | some d => some (d, setO p.2 n (some (.lst xs.dropLast)))
        | none => none
      | _ => none
    | _ => none
  | .popAt a b, s => (evE C env a s).bind fun p => (evE C env b p.2).bind fun q => match p.1, q.1 with
    | .obj n, .int i => match getO q.2 n with
      | some (.lst xs) => if 0 ≤ i ∧ i < 2 ^ 63 then match xs[i.toNat]? with
          | some d => match getO p.2 n with
            | some (.lst _) => some (d, setO q.2 n (some (.lst (xs.eraseIdx i.toNat))))
            | _ => none
          | none => none
        else none
      | _ => none
    | _, _ => none
  | .app a b, s => (evE C env a s).bind fun p => (evE C env b p.2).bind fun q => match p.1 with
    | .obj n => match getO p.2 n, getO q.2 n with
      | some (.lst _), some (.lst xs) => if xs.length < ZL then some (.non, setO q.2 n (some (.lst (xs ++ [q.1])))) else none
      | _, _ => none
    | _ => none
  | .ext a b, s => (evE C env a s).bind fun p => (evE C env b p.2).bind fun q => match p.1, q.1 with
    | .obj n, .lst ys => match getO p.2 n, getO q.2 n with
      | some (.lst _), some (.lst xs) => if xs.length + ys.length ≤ ZL then some (.non, setO q.2 n (some (.lst (xs ++ ys)))) else none
      | _, _ => none
    | _, _ => none
  | .newSort a, s => (evE C env a s).bind fun p => match p.1 with
    | .obj n => match getO p.2 n with
      | some (.lst xs) => if xs.length ≤ 60 then (keysOf xs).map fun ks => (.obj p.2.length, p.2 ++ [some (.lst ((sortK ks).map (·.2)))]) else none
      | _ => none
    | _ => none
  | .lc g it t e own, s => if (g.slots.all fun i => own.contains i) = true then (evI C env it s).bind fun p =>
      (srcGo (fun d s1 => (asgG g d (wipeD env own)).bind fun e1 => (evT C e1 t s1).bind fun q => match q.1 with
        | true => (evE C e1 e q.2).map fun r => (some r.1, r.2)
        | false => some (none, q.2)) p.1 p.2).map fun q => (.lst q.1, q.2)
      else none
def evEs (C : Cc) (env : En) : Es → Sto → Option (List D × Sto)
  | .nil, s => some ([], s)
  | .cons e es, s => (evE C env e s).bind fun p => (evEs C env es p.2).map fun q => (p.1 :: q.1, q.2)
def evOe (C : Cc) (env : En) : Oe → Sto → Option (Option Int × Sto)
  | .none, s => some (none, s)
  | .some e, s => (evE C env e s).bind fun p => match p.1 with
    | .int i => some (some i, p.2)
    | _ => none
def evT (C : Cc) (env : En) : T → Sto → Option (Bool × Sto)
  | .yes, s => some (true, s)
  | .tru e, s => (evE C env e s).bind fun p => (truD p.2 p.1).map fun b => (b, p.2)
  | .val e, s => (evE C env e s).bind fun p => match p.1 with
    | .bl b => some (b, p.2)
    | _ => none
  | .and a b, s => (evT C env a s).bind fun p => match p.1 with
    | true => evT C env b p.2
    | false => some (false, p.2)
  | .or a b, s => (evT C env a s).bind fun p => match p.1 with
    | true => some (true, p.2)
    | false => evT C env b p.2
  | .not a, s => (evT C env a s).map fun p => (!p.1, p.2)
def evI (C : Cc) (env : En) : It → Sto → Option (Src × Sto)
  | .seq e, s => (evE C env e s).bind fun p => (seqSrc p.2 p.1).map fun r => (r, p.2)
  | .rng1 e, s => (evE C env e s).bind fun p => match p.1 with
    | .int n => if -(ZL : Int) ≤ n ∧ n ≤ ZL then some (.vals (rgD n), p.2) else none
    | _ => none
  | .rng2 a b, s => (evE C env a s).bind fun p => (evE C env b p.2).bind fun q => match p.1, q.1 with
    | .int i, .int j => if -(ZL : Int) ≤ i ∧ i ≤ ZL ∧ -(ZL : Int) ≤ j ∧ j ≤ ZL then some (.vals (rg2D i j), q.2) else none
    | _, _ => none
  | .zip a b, s => (evE C env a s).bind fun p => (evE C env b p.2).bind fun q => (zipSrc p.1 q.1).map fun r => (r, q.2)
  | .keys _, _ => none
end

/-- how a statement ends -/
inductive Rs where
  | nx (env : En) (s : Sto) | rt (d : D) (s : Sto) | bk (env : En) (s : Sto) | ct (env : En) (s : Sto)

def forV (f : En → Sto → Option Rs) (g : G) : List D → En → Sto → Option Rs
  | [], env, s => some (.nx env s)
  | d :: ds, env, s => match asgG g d env with
    | none => none
    | some e1 => match f e1 s with
      | some (.nx e2 s2) => forV f g ds e2 s2
      | some (.ct e2 s2) => forV f g ds e2 s2
      | some (.bk e2 s2) => some (.nx e2 s2)
      | some (.rt x s2) => some (.rt x s2)
      | none => none
def whileF (c : En → Sto → Option (Bool × Sto)) (f : En → Sto → Option Rs) : Nat → En → Sto → Option Rs
  | 0, _, _ => none
  | n + 1, env, s => match c env s with
    | none => none
    | some (false, s1) => some (.nx env s1)
    | some (true, s1) => match f env s1 with
      | some (.nx e2 s2) => whileF c f n e2 s2
      | some (.ct e2 s2) => whileF c f n e2 s2
      | some (.bk e2 s2) => some (.nx e2 s2)
      | some (.rt x s2) => some (.rt x s2)
      | none => none
/-- a slot's list, from here on by value; its dict, from here on unchanged -/
def frzS (bs : Nat) (i : Nat) (env : En) (s : Sto) : Option (En × Sto) :=
  match env[i]? with
  | some (some (.obj n)) => if bs ≤ n then match getO s n with
      | some (.lst xs) => some (env.set i (some (.lst xs)), setO s n none)
      | some (.dT kvs) => some (env, setO s n (some (.fT kvs)))
      | _ => none
    else none
  | some (some _) => some (env, s)
  | _ => none
/-- the keys of a slot's dict, which is not changed from here on -/
def keySrc (bs : Nat) (s : Sto) (env : En) (i : Nat) : Option (List D × Sto) :=
  match env[i]? with
  | some (some (.obj n)) => if bs ≤ n then match getO s n with
      | some (.dT kvs) => some (kvs.map fun kv => .tup (kv.1.map ofKey), setO s n (some (.fT kvs)))
      | _ => none
    else none
  | _ => none

mutual
def exS (C : Cc) : S → En → Sto → Option Rs
  | .asg g e, env, s => (evE C env e s).bind fun p => (asgG g p.1 env).map fun e1 => .nx e1 p.2
  | .par i j a b, env, s => (evE C env a s).bind fun p => (evE C env b p.2).map fun q => .nx ((env.set i (some p.1)).set j (some q.1)) q.2
  | .seti o i e, env, s => (evE C env e s).bind fun p => (evE C env o p.2).bind fun q => (evE C env i q.2).bind fun r => match q.1, r.1 with
    | .obj n, .int k => match getO r.2 n with
      | some (.lst xs) => match L2.ixN xs.length k with
        | some j => some (.nx env (setO r.2 n (some (.lst (xs.set j p.1)))))
        | none => none
      | _ => none
    | _, _ => none
  | .dput o k e, env, s => (evE C env e s).bind fun p => (evE C env o p.2).bind fun q => (evE C env k q.2).bind fun r => match q.1 with
    | .obj n => match getO r.2 n with
      | some (.dK kvs) => if kvs.length < ZL then (toKey r.1).map fun k' => .nx env (setO r.2 n (some (.dK (putD kvs k' p.1)))) else none
      | some (.dT kvs) => if kvs.length < ZL then match r.1 with
          | .tup ds => (toKeys ds).map fun k' => .nx env (setO r.2 n (some (.dT (putD kvs k' p.1))))
          | _ => none
        else none
      | _ => none
    | _ => none
  | .expr e, env, s => (evE C env e s).map fun p => .nx env p.2
  | .ret e, env, s => (evE C env e s).map fun p => .rt p.1 p.2
  | .ife t a b, env, s => (evT C env t s).bind fun p => match p.1 with
    | true => exSs C a env p.2
    | false => exSs C b env p.2
  | .whl t b, env, s => whileF (fun e s1 => evT C e t s1) (fun e s1 => exSs C b e s1) C.wf env s
  | .for_ g it b, env, s => match it with
    | .keys i => (keySrc C.bs s env i).bind fun p => forV (fun e s1 => exSs C b e s1) g p.1 env p.2
    | it' => (evI C env it' s).bind fun p => match p.1 with
      | .vals l => forV (fun e s1 => exSs C b e s1) g l env p.2
      | .objl _ _ => none
  | .never, _, _ => none
  | .pass, env, s => some (.nx env s)
  | .brk, env, s => some (.bk env s)
  | .cont, env, s => some (.ct env s)
def exSs (C : Cc) : Ss → En → Sto → Option Rs
  | .nil, env, s => some (.nx env s)
  | .cons a r, env, s => match exS C a env s with
    | some (.nx e1 s1) => exSs C r e1 s1
    | x => x
  | .frz i r, env, s => (frzS C.bs i env s).bind fun p => exSs C r p.1 p.2
end

/-- a def: how many parameters, how many slots, its body -/
structure Df where
  np : Nat
  ns : Nat
  body : Ss
def Df.go (f : Df) (fn : Nat → List D → Sto → Option (D × Sto)) (wf : Nat) (ds : List D) (s : Sto) : Option (D × Sto) :=
  if ds.length = f.np then match exSs ⟨fn, wf, s.length⟩ f.body (ds.map some ++ List.replicate (f.ns - f.np) none) s with
    | some (.rt d s1) => some (d, s1)
    | some (.nx _ s1) => some (.non, s1)
    | _ => none
  else none
/-- the program's defs, so many calls deep -/
def run (P : Nat → Option Df) (wf : Nat) : Nat → Nat → List D → Sto → Option (D × Sto)
  | 0, _, _, _ => none
  | k + 1, i, ds, s => match P i with
    | some f => f.go (run P wf k) wf ds s
    | none => none
end Fw

/-! Fw, part B: what plain data stands for in the abstract heap; steps; what lies new. -/
namespace Fw
open PySem PySem.Spec PyProof.Rows L2

/-- F: what is taken to stand for ever; r: where the changing objects lie -/
structure Gh where
  F : Hp
  r : List Addr

mutual
inductive Rep (K : PySem.W.Frag) (g : Gh) : V → D → Prop
  | non : Rep K g .non .non
  | bl (b : Bool) : Rep K g (.bl b) (.bl b)
  | int (i : Int) : Rep K g (.int i) (.int i)
  | str (x : Str) : Rep K g (.str x) (.str x)
  | tup {a : Addr} {vs : List V} {ds : List D} : g.F a = some (.tup vs) → RepL K g vs ds → Rep K g (.ref a) (.tup ds)
  | lst {a : Addr} {vs : List V} {ds : List D} : g.F a = some (.lst vs) → RepL K g vs ds → Rep K g (.ref a) (.lst ds)
  | scr {a : Addr} {ns : List Int} : SqL K g.F a (ns.map V.int) → Rep K g (.ref a) (.scr ns)
  | obj {a : Addr} {n : Nat} : g.r[n]? = some a → Rep K g (.ref a) (.obj n)
inductive RepL (K : PySem.W.Frag) (g : Gh) : List V → List D → Prop
  | nil : RepL K g [] []
  | cons {v : V} {vs : List V} {d : D} {ds : List D} : Rep K g v d → RepL K g vs ds → RepL K g (v :: vs) (d :: ds)
end
/-- slots -/
inductive EnR (K : PySem.W.Frag) (g : Gh) : En → L2.St → Prop
  | nil : EnR K g [] []
  | no {x : Option V} {e : En} {t : L2.St} : EnR K g e t → EnR K g (none :: e) (x :: t)
  | yes {v : V} {d : D} {e : En} {t : L2.St} : Rep K g v d → EnR K g e t → EnR K g (some d :: e) (some v :: t)
inductive RepM {κ : Type} (K : PySem.W.Frag) (g : Gh) : List (κ × V) → List (κ × D) → Prop
  | nil : RepM K g [] []
  | cons {k : κ} {v : V} {d : D} {a : List (κ × V)} {b : List (κ × D)} : Rep K g v d → RepM K g a b → RepM K g ((k, v) :: a) ((k, d) :: b)

structure Gh.le (g g' : Gh) : Prop where
  F : ∀ a o, g.F a = some o → g'.F a = some o
  r : ∀ (n : Nat) (a : Addr), g.r[n]? = some a → g'.r[n]? = some a
theorem Gh.le.refl (g : Gh) : g.le g := ⟨fun _ _ h => h, fun _ _ h => h⟩
theorem Gh.le.trans {a b c : Gh} (x : a.le b) (y : b.le c) : a.le c := ⟨fun p o h => y.F p o (x.F p o h), fun p o h => y.r p o (x.r p o h)⟩

section
variable {K : PySem.W.Frag} {g g' : Gh}
theorem sqL_le (e : ∀ a o, g.F a = some o → g'.F a = some o) {a : Addr} {xs : List V} (h : SqL K g.F a xs) : SqL K g'.F a xs := by
  rcases h with (h | ⟨o, h⟩) | h
  · exact .inl (.inl (e _ _ h))
  · exact .inl (.inr ⟨o, e _ _ h⟩)
  · exact .inr h
mutual
theorem Rep.mono (e : g.le g') : ∀ {v : V} {d : D}, Rep K g v d → Rep K g' v d
  | _, _, .non => .non
  | _, _, .bl b => .bl b
  | _, _, .int i => .int i
  | _, _, .str x => .str x
  | _, _, .tup h r => .tup (e.F _ _ h) (RepL.mono e r)
  | _, _, .lst h r => .lst (e.F _ _ h) (RepL.mono e r)
  | _, _, .scr h => .scr (sqL_le e.F h)
  | _, _, .obj h => .obj (e.r _ _ h)
theorem RepL.mono (e : g.le g') : ∀ {vs : List V} {ds : List D}, RepL K g vs ds → RepL K g' vs ds
  | _, _, .nil => .nil
  | _, _, .cons h r => .cons (Rep.mono e h) (RepL.mono e r)
end
theorem EnR.mono (e : g.le g') : ∀ {a : En} {b : L2.St}, EnR K g a b → EnR K g' a b
  | _, _, .nil => .nil
  | _, _, .no r => .no (EnR.mono e r)
  | _, _, .yes h r => .yes (h.mono e) (EnR.mono e r)
theorem RepM.mono {κ : Type} (e : g.le g') : ∀ {a : List (κ × V)} {b : List (κ × D)}, RepM K g a b → RepM K g' a b
  | _, _, .nil => .nil
  | _, _, .cons h r => .cons (h.mono e) (RepM.mono e r)
mutual
/-- data without changing objects stands whatever the objects are -/
theorem Rep.free {F : Hp} {r r' : List Addr} : ∀ {v : V} {d : D}, d.cl = true → Rep K ⟨F, r⟩ v d → Rep K ⟨F, r'⟩ v d
  | _, _, _, .non => .non
  | _, _, _, .bl b => .bl b
  | _, _, _, .int i => .int i
  | _, _, _, .str x => .str x
  | _, .tup ds, c, .tup h q => .tup h (RepL.free (ds := ds) (by simpa [D.cl] using c) q)
  | _, .lst ds, c, .lst h q => .lst h (RepL.free (ds := ds) (by simpa [D.cl] using c) q)
  | _, _, _, .scr h => .scr h
  | _, .obj n, c, .obj h => by simp [D.cl] at c
theorem RepL.free {F : Hp} {r r' : List Addr} : ∀ {vs : List V} {ds : List D}, clL ds = true → RepL K ⟨F, r⟩ vs ds → RepL K ⟨F, r'⟩ vs ds
  | _, _, _, .nil => .nil
  | _, d :: ds, c, .cons h q => by
    simp only [clL, Bool.and_eq_true] at c
    exact .cons (Rep.free c.1 h) (RepL.free c.2 q)
end
theorem RepL.length : ∀ {vs : List V} {ds : List D}, RepL K g vs ds → vs.length = ds.length
  | _, _, .nil => rfl
  | _, _, .cons _ r => congrArg (· + 1) (RepL.length r)
theorem RepL.get : ∀ {vs : List V} {ds : List D} {i : Nat} {d : D}, RepL K g vs ds → ds[i]? = some d → ∃ v, vs[i]? = some v ∧ Rep K g v d
  | _, _, _, _, .nil, e => by simp at e
  | _, _, 0, _, .cons h _, e => by simp at e; subst e; exact ⟨_, rfl, h⟩
  | _, _, i + 1, _, .cons _ r, e => by
    obtain ⟨v, h1, h2⟩ := RepL.get (i := i) r (by simpa using e)
    exact ⟨v, by simpa using h1, h2⟩
theorem RepL.getV : ∀ {vs : List V} {ds : List D} {i : Nat} {v : V}, RepL K g vs ds → vs[i]? = some v → ∃ d, ds[i]? = some d ∧ Rep K g v d
  | _, _, _, _, .nil, e => by simp at e
  | _, _, 0, _, .cons h _, e => by simp at e; subst e; exact ⟨_, rfl, h⟩
  | _, _, i + 1, _, .cons _ r, e => by
    obtain ⟨v, h1, h2⟩ := RepL.getV (i := i) r (by simpa using e)
    exact ⟨v, by simpa using h1, h2⟩
theorem RepL.append : ∀ {vs ws : List V} {ds es : List D}, RepL K g vs ds → RepL K g ws es → RepL K g (vs ++ ws) (ds ++ es)
  | _, _, _, _, .nil, q => q
  | _, _, _, _, .cons h r, q => .cons h (RepL.append r q)
theorem RepL.take : ∀ {vs : List V} {ds : List D} (n : Nat), RepL K g vs ds → RepL K g (vs.take n) (ds.take n)
  | _, _, 0, _ => .nil
  | _, _, _ + 1, .nil => .nil
  | _, _, n + 1, .cons h r => .cons h (RepL.take n r)
theorem RepL.drop : ∀ {vs : List V} {ds : List D} (n : Nat), RepL K g vs ds → RepL K g (vs.drop n) (ds.drop n)
  | _, _, 0, r => r
  | _, _, _ + 1, .nil => .nil
  | _, _, n + 1, .cons _ r => RepL.drop n r
theorem RepL.set {v : V} {d : D} (q : Rep K g v d) : ∀ {vs : List V} {ds : List D} (n : Nat), RepL K g vs ds → RepL K g (vs.set n v) (ds.set n d)
  | _, _, _, .nil => .nil
  | _, _, 0, .cons _ r => .cons q r
  | _, _, n + 1, .cons h r => .cons h (RepL.set q n r)
theorem RepL.dropLast : ∀ {vs : List V} {ds : List D}, RepL K g vs ds → RepL K g vs.dropLast ds.dropLast
  | _, _, .nil => .nil
  | _, _, .cons _ .nil => .nil
  | _, _, .cons h (.cons h2 r) => .cons h (RepL.dropLast (.cons h2 r))
theorem RepL.eraseIdx : ∀ {vs : List V} {ds : List D} (n : Nat), RepL K g vs ds → RepL K g (vs.eraseIdx n) (ds.eraseIdx n)
  | _, _, _, .nil => .nil
  | _, _, 0, .cons _ r => r
  | _, _, n + 1, .cons h r => .cons h (RepL.eraseIdx n r)
theorem RepL.flat {vs : List V} {ds : List D} (q : RepL K g vs ds) : ∀ (n : Nat), RepL K g (List.replicate n vs).flatten (List.replicate n ds).flatten
  | 0 => .nil
  | n + 1 => by
    rw [List.replicate_succ, List.replicate_succ, List.flatten_cons, List.flatten_cons]
    exact q.append (RepL.flat q n)
theorem RepL.ints : ∀ (ns : List Int), RepL K g (ns.map V.int) (ns.map D.int)
  | [] => .nil
  | i :: r => .cons (.int i) (RepL.ints r)
theorem RepL.strs : ∀ {vs : List V} {ds : List D} {ys : List Str}, RepL K g vs ds → strsD ds = some ys → vs = ys.map V.str
  | _, _, _, .nil, e => by simp [strsD] at e; subst e; rfl
  | _, d :: ds, ys, .cons h r, e => by
    cases h with
    | str x =>
      simp only [strsD, Option.map_eq_some_iff] at e
      obtain ⟨zs, h1, rfl⟩ := e
      rw [RepL.strs r h1, List.map_cons]
    | _ => simp [strsD] at e
theorem RepL.sums : ∀ {vs : List V} {ds : List D} {i : Int}, RepL K g vs ds → sumD ds = some i → ∃ ns : List Int, vs = ns.map V.int ∧ ns.sum = i
  | _, _, _, .nil, e => by simp [sumD] at e; subst e; exact ⟨[], rfl, rfl⟩
  | _, d :: ds, _, .cons h r, e => by
    cases h with
    | int j =>
      simp only [sumD, Option.map_eq_some_iff] at e
      obtain ⟨k, h1, rfl⟩ := e
      obtain ⟨ns, h2, rfl⟩ := RepL.sums r h1
      exact ⟨j :: ns, by rw [h2, List.map_cons], by rw [List.sum_cons]⟩
    | _ => simp [sumD] at e
theorem RepL.keys : ∀ {vs : List V} {ds : List D} {ks : List Key}, RepL K g vs ds → toKeys ds = some ks → vs = ks.map kV
  | _, _, _, .nil, e => by simp [toKeys] at e; subst e; rfl
  | _, d :: ds, ks, .cons h r, e => by
    simp only [toKeys] at e
    split at e
    · rename_i k kr h1 h2
      cases e
      rw [RepL.keys r h2, List.map_cons]
      cases h with
      | int j => simp [toKey] at h1; subst h1; rfl
      | str x => simp [toKey] at h1; subst h1; rfl
      | _ => simp [toKey] at h1
    · cases e
theorem Rep.key {v : V} {d : D} {k : Key} (h : Rep K g v d) (e : toKey d = some k) : v = kV k := by
  cases h with
  | int j => simp [toKey] at e; subst e; rfl
  | str x => simp [toKey] at e; subst e; rfl
  | _ => simp [toKey] at e
theorem Rep.ofKey (k : Key) : Rep K g (kV k) (Fw.ofKey k) := by
  cases k with
  | inl i => exact .int i
  | inr x => exact .str x
theorem RepL.ofKeys : ∀ (ks : List Key), RepL K g (ks.map kV) (ks.map Fw.ofKey)
  | [] => .nil
  | k :: r => .cons (Rep.ofKey k) (RepL.ofKeys r)
theorem EnR.length : ∀ {a : En} {b : L2.St}, EnR K g a b → b.length = a.length
  | _, _, .nil => rfl
  | _, _, .no r => congrArg (· + 1) (EnR.length r)
  | _, _, .yes _ r => congrArg (· + 1) (EnR.length r)
theorem EnR.get : ∀ {a : En} {b : L2.St} {i : Nat} {d : D}, EnR K g a b → a[i]? = some (some d) → ∃ v, b[i]? = some (some v) ∧ Rep K g v d
  | _, _, _, _, .nil, e => by simp at e
  | _, _, 0, _, .no _, e => by simp at e
  | _, _, 0, _, .yes h _, e => by simp at e; subst e; exact ⟨_, rfl, h⟩
  | _, _, i + 1, _, .no r, e => by
    obtain ⟨v, h1, h2⟩ := EnR.get (i := i) r (by simpa using e)
    exact ⟨v, by simpa using h1, h2⟩
  | _, _, i + 1, _, .yes _ r, e => by
    obtain ⟨v, h1, h2⟩ := EnR.get (i := i) r (by simpa using e)
    exact ⟨v, by simpa using h1, h2⟩
theorem EnR.set {v : V} {d : D} (q : Rep K g v d) : ∀ {a : En} {b : L2.St} (n : Nat), EnR K g a b → EnR K g (a.set n (some d)) (b.set n (some v))
  | _, _, _, .nil => .nil
  | _, _, 0, .no r => .yes q r
  | _, _, 0, .yes _ r => .yes q r
  | _, _, n + 1, .no r => .no (EnR.set q n r)
  | _, _, n + 1, .yes h r => .yes h (EnR.set q n r)
theorem EnR.unset : ∀ {a : En} {b : L2.St} (n : Nat), EnR K g a b → EnR K g (a.set n none) (b.set n none)
  | _, _, _, .nil => .nil
  | _, _, 0, .no r => .no r
  | _, _, 0, .yes _ r => .no r
  | _, _, n + 1, .no r => .no (EnR.unset n r)
  | _, _, n + 1, .yes h r => .yes h (EnR.unset n r)
theorem EnR.wipe {a : En} {b : L2.St} (r : EnR K g a b) : ∀ (vs : List Nat), EnR K g (wipeD a vs) (L2.wipe b vs)
  | [] => r
  | v :: vs => EnR.unset v (EnR.wipe r vs)
theorem EnR.start : ∀ {vs : List V} {ds : List D} (n : Nat), RepL K g vs ds → EnR K g (ds.map some ++ List.replicate n none) (vs.map some ++ List.replicate n none)
  | _, _, 0, .nil => .nil
  | _, _, n + 1, .nil => .no (EnR.start n .nil)
  | _, _, n, .cons h r => .yes h (EnR.start n r)
/-- at slot n stands the same value, said otherwise -/
theorem EnR.reset {v : V} {d : D} (q : Rep K g v d) : ∀ {a : En} {b : L2.St} (n : Nat), EnR K g a b → b[n]? = some (some v) → EnR K g (a.set n (some d)) b
  | _, _, _, .nil, _ => .nil
  | _, _, 0, .no r, e => by simp at e; subst e; exact .yes q r
  | _, _, 0, .yes _ r, e => by simp at e; subst e; exact .yes q r
  | _, _, n + 1, .no r, e => .no (EnR.reset q n r (by simpa using e))
  | _, _, n + 1, .yes h r, e => .yes h (EnR.reset q n r (by simpa using e))
end

/-! ### dicts -/
section
variable {κ : Type} [DecidableEq κ] {K : PySem.W.Frag} {g : Gh}
theorem RepM.length : ∀ {a : List (κ × V)} {b : List (κ × D)}, RepM K g a b → a.length = b.length
  | _, _, .nil => rfl
  | _, _, .cons _ r => congrArg (· + 1) (RepM.length r)
theorem RepM.look (k : κ) : ∀ {a : List (κ × V)} {b : List (κ × D)}, RepM K g a b → (∀ d, lookD b k = some d → ∃ v, valV a k = some v ∧ Rep K g v d) ∧ (lookD b k = none → valV a k = none)
  | _, _, .nil => ⟨fun d e => by simp [lookD] at e, fun _ => rfl⟩
  | _, _, @RepM.cons _ _ _ k' v d a b h r => by
    by_cases e : k' = k
    · subst e
      rw [valV_pos (p := (k', v)) rfl]
      simp only [lookD, List.find?_cons, decide_true, Option.map_some]
      exact ⟨fun d' q => by cases q; exact ⟨v, rfl, h⟩, fun q => by cases q⟩
    · rw [valV_neg (p := (k', v)) e]
      have e2 : lookD ((k', d) :: b) k = lookD b k := by simp [lookD, List.find?_cons, e]
      rw [e2]
      exact RepM.look k r
theorem RepM.any (k : κ) : ∀ {a : List (κ × V)} {b : List (κ × D)}, RepM K g a b → (a.any fun kv => decide (kv.1 = k)) = (b.any fun kv => decide (kv.1 = k))
  | _, _, .nil => rfl
  | _, _, .cons _ r => by rw [List.any_cons, List.any_cons, RepM.any k r]
theorem RepM.upd {v : V} {d : D} (k : κ) (q : Rep K g v d) : ∀ {a : List (κ × V)} {b : List (κ × D)}, RepM K g a b → RepM K g (a.map fun kv => if kv.1 = k then (kv.1, v) else kv) (b.map fun kv => if kv.1 = k then (kv.1, d) else kv)
  | _, _, .nil => .nil
  | _, _, @RepM.cons _ _ _ k' v' d' a b h r => by
    rw [List.map_cons, List.map_cons]
    by_cases e : k' = k
    · rw [if_pos e, if_pos e]; exact .cons q (RepM.upd k q r)
    · rw [if_neg e, if_neg e]; exact .cons h (RepM.upd k q r)
theorem RepM.append : ∀ {a a' : List (κ × V)} {b b' : List (κ × D)}, RepM K g a b → RepM K g a' b' → RepM K g (a ++ a') (b ++ b')
  | _, _, _, _, .nil, q => q
  | _, _, _, _, .cons h r, q => .cons h (RepM.append r q)
theorem RepM.put {v : V} {d : D} (k : κ) (q : Rep K g v d) {a : List (κ × V)} {b : List (κ × D)} (r : RepM K g a b) : RepM K g (putK a k v) (putD b k d) := by
  unfold putK putD
  rw [r.any k]
  split
  · exact r.upd k q
  · exact r.append (.cons q .nil)
theorem RepM.merge {a : List (Key × V)} {b : List (Key × D)} (r : RepM K g a b) : ∀ {x : List (Key × V)} {y : List (Key × D)}, RepM K g x y → RepM K g (mergeK x a) (mergeD y b) := by
  unfold mergeK mergeD
  induction r with
  | nil => intro x y q; exact q
  | cons h _ ih => intro x y q; exact ih (q.put _ h)
theorem RepM.zip : ∀ {ks : List κ} {vs : List V} {ds : List D}, RepL K g vs ds → RepM K g (ks.zip vs) (ks.zip ds)
  | [], _, _, _ => by rw [List.zip_nil_left, List.zip_nil_left]; exact .nil
  | _ :: _, _, _, .nil => by rw [List.zip_nil_right, List.zip_nil_right]; exact .nil
  | k :: ks, _, _, .cons h r => .cons h (RepM.zip r)
end

/-! ### the state -/
def RepO (K : PySem.W.Frag) (g : Gh) : HO → Ob → Prop
  | .lst vs, .lst ds => RepL K g vs ds
  | .dK a, .dK b => RepM K g a b
  | .dT a, .dT b => RepM K g a b
  | _, _ => False
theorem RepO.mono {K : PySem.W.Frag} {g g' : Gh} (e : g.le g') {o : HO} {b : Ob} (h : RepO K g o b) : RepO K g' o b := by
  cases o <;> cases b <;> first
    | exact RepL.mono e h
    | exact RepM.mono e h
    | exact h
theorem RepO.mut {K : PySem.W.Frag} {g : Gh} {o : HO} {b : Ob} (h : RepO K g o b) : Mut (some o) := by
  cases o <;> cases b <;> first | exact trivial | exact (show False from h).elim
def isDct : HO → Bool
  | .dK _ => true
  | .dT _ => true
  | _ => false
def Ob.live : Ob → Bool
  | .fT _ => false
  | _ => true
def live (s : Sto) (n : Nat) : Prop := ∃ b, getO s n = some b ∧ b.live = true

structure Wf (K : PySem.W.Frag) (g : Gh) (s : Sto) (H : Hp) : Prop where
  ext : ∀ a o, g.F a = some o → H a = some o ∨ (isDct o = true ∧ ∃ od, H a = some (.frz od o))
  len : s.length = g.r.length
  at_ : ∀ (n : Nat) (a : Addr), g.r[n]? = some a → H a ≠ none
  liv : ∀ (n : Nat) (b : Ob), getO s n = some b → b.live = true → ∃ a o, g.r[n]? = some a ∧ g.F a = none ∧ H a = some o ∧ RepO K g o b
  fT : ∀ (n : Nat) kvs, getO s n = some (.fT kvs) → ∃ a kv, g.r[n]? = some a ∧ g.F a = some (.dT kv) ∧ RepM K g kv kvs
  inj : ∀ (n m : Nat) (a : Addr), live s n → live s m → g.r[n]? = some a → g.r[m]? = some a → n = m
/-- there is something, no tuple -/
def NT (H : Hp) (a : Addr) : Prop := H a ≠ none ∧ ∀ vs, H a ≠ some (.tup vs)
theorem NT.of {H : Hp} {a : Addr} {o : HO} (h : H a = some o) (n : ∀ vs, o ≠ .tup vs) : NT H a := ⟨(by rw [h]; intro z; cases z), fun vs z => (by rw [h] at z; cases z; exact n vs rfl)⟩
theorem NT.upd {H : Hp} {a p : Addr} {o : HO} (h : NT H a) (n : a = p → ∀ vs, o ≠ .tup vs) : NT (upd H p o) a := by
  by_cases z : a = p
  · subst z; exact .of upd_same (n rfl)
  · unfold NT; rw [upd_ne z]; exact h
/-- b: objects from here on are our own, they may be frozen -/
structure Step (b : Nat) (g : Gh) (s : Sto) (H : Hp) (g' : Gh) (s' : Sto) (H' : Hp) : Prop where
  le : g.le g'
  keep : ∀ a o, H a = some o → (∀ (n : Nat), live s n → g.r[n]? ≠ some a) → H' a = some o
  dom : ∀ a, H a ≠ none → H' a ≠ none
  nt : ∀ a, NT H a → NT H' a
  fresh : ∀ a, NT H a → g.F a = none → g'.F a = none ∨ ∃ n : Nat, b ≤ n ∧ g.r[n]? = some a
  own : ∀ (n : Nat) (a : Addr), g.r.length ≤ n → g'.r[n]? = some a → H a = none
  lm : ∀ n, live s' n → n < s.length → live s n
  grow : s.length ≤ s'.length

section
variable {K : PySem.W.Frag} {b : Nat} {g g' g1 g2 g3 : Gh} {s s' s1 s2 s3 : Sto} {H H' H1 H2 H3 : Hp}
theorem get_lt {s : Sto} {n : Nat} {o : Ob} (h : getO s n = some o) : n < s.length := by
  unfold getO at h
  by_cases q : n < s.length
  · exact q
  · rw [List.getElem?_eq_none (by omega)] at h; cases h
theorem live_lt {n : Nat} (h : live s n) : n < s.length := let ⟨_, e, _⟩ := h; get_lt e
theorem Step.refl : Step b g s H g s H where
  le := .refl g
  keep := fun _ _ h _ => h
  dom := fun _ h => h
  nt := fun _ h => h
  fresh := fun _ _ h => .inl h
  own := fun n a h e => by rw [List.getElem?_eq_none h] at e; cases e
  lm := fun _ h _ => h
  grow := Nat.le_refl _
theorem Wf.r_lt (W : Wf K g s H) {n : Nat} {a : Addr} (e : g.r[n]? = some a) : n < s.length := by
  obtain ⟨h, _⟩ := List.getElem?_eq_some_iff.mp e
  rw [W.len]; exact h
theorem Wf.r_some (W : Wf K g s H) {n : Nat} (h : n < s.length) : ∃ a, g.r[n]? = some a := by
  rw [W.len] at h
  exact ⟨_, List.getElem?_eq_getElem h⟩
theorem Wf.fnone (W : Wf K g s H) {a : Addr} (h : H a = none) : g.F a = none := by
  cases q : g.F a with
  | none => rfl
  | some o =>
    rcases W.ext a o q with e | ⟨_, _, e⟩ <;> (rw [h] at e; cases e)
theorem Step.trans (W1 : Wf K g1 s1 H1) (W2 : Wf K g2 s2 H2) (x : Step b g1 s1 H1 g2 s2 H2) (y : Step b g2 s2 H2 g3 s3 H3) : Step b g1 s1 H1 g3 s3 H3 where
  le := x.le.trans y.le
  keep := fun a o h hn => y.keep a o (x.keep a o h hn) fun n hl e => by
    by_cases hi : n < s1.length
    · obtain ⟨c, hc⟩ := W1.r_some hi
      have e2 := x.le.r n c hc
      rw [e] at e2; cases e2
      exact hn n (x.lm n hl hi) hc
    · have := x.own n a (by rw [← W1.len]; omega) e
      rw [h] at this; cases this
  dom := fun a h => y.dom a (x.dom a h)
  nt := fun a h => y.nt a (x.nt a h)
  fresh := fun a h f => by
    rcases x.fresh a h f with f2 | q
    · rcases y.fresh a (x.nt a h) f2 with f3 | ⟨n, hb, e⟩
      · exact .inl f3
      · right
        by_cases hi : n < s1.length
        · obtain ⟨c, hc⟩ := W1.r_some hi
          have e2 := x.le.r n c hc
          rw [e] at e2; cases e2
          exact ⟨n, hb, hc⟩
        · exact absurd (x.own n a (by rw [← W1.len]; omega) e) h.1
    · exact .inr q
  own := fun n a h e => by
    by_cases hi : n < s2.length
    · obtain ⟨c, hc⟩ := W2.r_some hi
      have e2 := y.le.r n c hc
      rw [e] at e2; cases e2
      exact x.own n a h hc
    · have q := y.own n a (by rw [← W2.len]; omega) e
      cases z : H1 a with
      | none => rfl
      | some o => exact absurd q (x.dom a (by rw [z]; intro w; cases w))
  lm := fun n h hi => x.lm n (y.lm n h (Nat.lt_of_lt_of_le hi x.grow)) hi
  grow := Nat.le_trans x.grow y.grow

theorem Ob_live_of {o : HO} {q : Ob} (h : RepO K g o q) : q.live = true := by
  cases o <;> cases q <;> first | rfl | exact (show False from h).elim

/-- a new thing that never changes -/
theorem Wf.new (W : Wf K g s H) {p : Addr} {o : HO} (hp : H p = none) : Step b g s H ⟨upd g.F p o, g.r⟩ s (upd H p o) ∧ Wf K ⟨upd g.F p o, g.r⟩ s (upd H p o) := by
  have hf := W.fnone hp
  have le : g.le ⟨upd g.F p o, g.r⟩ := ⟨fun a u e => by
    show upd g.F p o a = some u
    rw [upd_ne (ne_of_none e hf)]; exact e, fun _ _ e => e⟩
  have nr : ∀ (n : Nat) (a : Addr), g.r[n]? = some a → a ≠ p := fun n a e z => by subst z; exact W.at_ n a e hp
  refine ⟨⟨le, fun a u e _ => ?_, fun a e => ?_, fun a e => e.upd fun z => absurd hp (z ▸ e.1), fun a e f => ?_, fun n a h e => ?_, fun _ h _ => h, Nat.le_refl _⟩, ⟨fun a u e => ?_, W.len, fun n a e => ?_, fun n q h hl => ?_, fun n kvs h => ?_, W.inj⟩⟩
  · rw [upd_ne (ne_of_none e hp)]; exact e
  · by_cases z : a = p
    · subst z; exact absurd hp e
    · rw [upd_ne z]; exact e
  · left
    show upd g.F p o a = none
    by_cases z : a = p
    · subst z; exact absurd hp e.1
    · rw [upd_ne z]; exact f
  · rw [List.getElem?_eq_none h] at e; cases e
  · by_cases z : a = p
    · subst z
      have e' : upd g.F a o a = some u := e
      rw [upd_same] at e'; cases e'
      exact .inl upd_same
    · have e' : upd g.F p o a = some u := e
      rw [upd_ne z] at e'
      rw [upd_ne z]
      exact W.ext a u e'
  · rw [upd_ne (nr n a e)]; exact W.at_ n a e
  · obtain ⟨a, u, h1, h2, h3, h4⟩ := W.liv n q h hl
    refine ⟨a, u, h1, ?_, ?_, h4.mono le⟩
    · show upd g.F p o a = none
      rw [upd_ne (nr n a h1)]; exact h2
    · rw [upd_ne (nr n a h1)]; exact h3
  · obtain ⟨a, kv, h1, h2, h3⟩ := W.fT n kvs h
    exact ⟨a, kv, h1, le.F _ _ h2, h3.mono le⟩

theorem getO_push {s : Sto} {q : Option Ob} {n : Nat} {o : Ob} (h : getO (s ++ [q]) n = some o) : getO s n = some o ∨ (n = s.length ∧ q = some o) := by
  unfold getO at h ⊢
  by_cases hi : n < s.length
  · rw [List.getElem?_append_left hi] at h; exact .inl h
  · by_cases e : n = s.length
    · subst e
      rw [List.getElem?_append_right (Nat.le_refl _), Nat.sub_self] at h
      exact .inr ⟨rfl, by simpa using h⟩
    · rw [List.getElem?_eq_none (by rw [List.length_append, List.length_singleton]; omega)] at h; cases h
theorem getO_push_same {s : Sto} {q : Option Ob} : getO (s ++ [q]) s.length = q := by
  unfold getO
  rw [List.getElem?_append_right (Nat.le_refl _), Nat.sub_self]; rfl
theorem getO_push_old {s : Sto} {q : Option Ob} {n : Nat} (h : n < s.length) : getO (s ++ [q]) n = getO s n := by
  unfold getO
  rw [List.getElem?_append_left h]
theorem getO_set {s : Sto} {q : Option Ob} {n m : Nat} {o : Ob} (h : getO (setO s n q) m = some o) : (m ≠ n ∧ getO s m = some o) ∨ (m = n ∧ q = some o ∧ n < s.length) := by
  unfold getO setO at h
  by_cases e : m = n
  · subst e
    by_cases hi : m < s.length
    · rw [List.getElem?_set_self hi] at h; exact .inr ⟨rfl, by simpa using h, hi⟩
    · rw [List.getElem?_eq_none (by rw [List.length_set]; omega)] at h; cases h
  · rw [List.getElem?_set_ne (fun z => e z.symm)] at h
    exact .inl ⟨e, h⟩

/-- a new thing that may change -/
theorem Wf.push (W : Wf K g s H) {p : Addr} {o : HO} {q : Ob} (hp : H p = none) (hr : RepO K g o q) : Step b g s H ⟨g.F, g.r ++ [p]⟩ (s ++ [some q]) (upd H p o) ∧ Wf K ⟨g.F, g.r ++ [p]⟩ (s ++ [some q]) (upd H p o) ∧ Rep K ⟨g.F, g.r ++ [p]⟩ (.ref p) (.obj s.length) := by
  have hf := W.fnone hp
  have nr : ∀ (n : Nat) (a : Addr), g.r[n]? = some a → a ≠ p := fun n a e z => by subst z; exact W.at_ n a e hp
  have le : g.le ⟨g.F, g.r ++ [p]⟩ := ⟨fun _ _ e => e, fun n a e => by
    obtain ⟨h, _⟩ := List.getElem?_eq_some_iff.mp e
    show (g.r ++ [p])[n]? = some a
    rw [List.getElem?_append_left h]; exact e⟩
  have at_p : (g.r ++ [p])[s.length]? = some p := by
    rw [W.len, List.getElem?_append_right (Nat.le_refl _), Nat.sub_self]; rfl
  have spl : ∀ (n : Nat) (a : Addr), (g.r ++ [p])[n]? = some a → g.r[n]? = some a ∨ (n = s.length ∧ a = p) := fun n a e => by
    by_cases hi : n < g.r.length
    · rw [List.getElem?_append_left hi] at e; exact .inl e
    · by_cases z : n = s.length
      · subst z; rw [at_p] at e; cases e; exact .inr ⟨rfl, rfl⟩
      · rw [List.getElem?_eq_none (by rw [List.length_append, List.length_singleton]; have := W.len; omega)] at e; cases e
  have lq := Ob_live_of hr
  refine ⟨⟨le, fun a u e _ => ?_, fun a e => ?_, fun a e => e.upd fun z => absurd hp (z ▸ e.1), fun a e f => .inl f, fun n a h e => ?_, fun n h hi => ?_, by rw [List.length_append]; omega⟩, ⟨fun a u e => ?_, by rw [List.length_append, List.length_append, W.len]; rfl, fun n a e => ?_, fun n c h hl => ?_, fun n kvs h => ?_, fun n m a hn hm en em => ?_⟩, .obj at_p⟩
  · rw [upd_ne (ne_of_none e hp)]; exact e
  · by_cases z : a = p
    · subst z; exact absurd hp e
    · rw [upd_ne z]; exact e
  · rcases spl n a e with e | ⟨rfl, rfl⟩
    · rw [List.getElem?_eq_none h] at e; cases e
    · exact hp
  · obtain ⟨c, h, hl⟩ := h
    rw [getO_push_old hi] at h
    exact ⟨c, h, hl⟩
  · have e' : g.F a = some u := e
    have z : a ≠ p := ne_of_none e' hf
    rw [upd_ne z]
    exact W.ext a u e'
  · rcases spl n a e with e | ⟨rfl, rfl⟩
    · rw [upd_ne (nr n a e)]; exact W.at_ n a e
    · rw [upd_same]; intro z; cases z
  · rcases getO_push h with h' | ⟨rfl, h'⟩
    · obtain ⟨a, u, h1, h2, h3, h4⟩ := W.liv n c h' hl
      exact ⟨a, u, le.r _ _ h1, h2, by rw [upd_ne (nr n a h1)]; exact h3, h4.mono le⟩
    · cases h'
      exact ⟨p, o, at_p, hf, upd_same, hr.mono le⟩
  · rcases getO_push h with h' | ⟨rfl, h'⟩
    · obtain ⟨a, kv, h1, h2, h3⟩ := W.fT n kvs h'
      exact ⟨a, kv, le.r _ _ h1, h2, h3.mono le⟩
    · cases h'; cases lq
  · have old : ∀ k, live (s ++ [some q]) k → k ≠ s.length → live s k := fun k ⟨c, h, hl⟩ ne => by
      rcases getO_push h with h | ⟨z, _⟩
      · exact ⟨c, h, hl⟩
      · exact absurd z ne
    rcases spl n a en with en1 | ⟨e1, e2⟩ <;> rcases spl m a em with em1 | ⟨e3, e4⟩
    · have : ∀ (k : Nat) (c : Addr), g.r[k]? = some c → k ≠ s.length := fun k c e z => by
        subst z; rw [W.len, List.getElem?_eq_none (Nat.le_refl _)] at e; cases e
      exact W.inj n m a (old n hn (this n a en1)) (old m hm (this m a em1)) en1 em1
    · exact absurd e4 (nr n a en1)
    · exact absurd e2 (nr m a em1)
    · rw [e1, e3]

/-- a changing thing changes -/
theorem Wf.write (W : Wf K g s H) {n : Nat} {a : Addr} {c q : Ob} {o : HO} (hc : getO s n = some c) (hl : c.live = true) (ha : g.r[n]? = some a) (hr : RepO K g o q) : Step b g s H g (setO s n (some q)) (upd H a o) ∧ Wf K g (setO s n (some q)) (upd H a o) := by
  obtain ⟨a', u, h1, h2, h3, h4⟩ := W.liv n c hc hl
  rw [ha] at h1; cases h1
  have lv : live s n := ⟨c, hc, hl⟩
  have lq := Ob_live_of hr
  have back : ∀ m, live (setO s n (some q)) m → live s m := fun m ⟨d, h, hd⟩ => by
    rcases getO_set h with ⟨_, h⟩ | ⟨rfl, h, _⟩
    · exact ⟨d, h, hd⟩
    · exact lv
  have nt0 : ∀ vs, o ≠ .tup vs := fun vs z => by subst z; cases q <;> exact (show False from hr).elim
  refine ⟨⟨.refl g, fun b u e hn => ?_, fun b e => ?_, fun _ e => e.upd fun _ => nt0, fun _ _ f => .inl f, fun m b h e => ?_, fun m h _ => back m h, by unfold setO; rw [List.length_set]; exact Nat.le_refl _⟩, ⟨fun b u e => ?_, by unfold setO; rw [List.length_set]; exact W.len, fun m b e => ?_, fun m d h hd => ?_, fun m kvs h => ?_, fun m k b hm hk em ek => W.inj m k b (back m hm) (back k hk) em ek⟩⟩
  · have z : b ≠ a := fun z => by subst z; exact hn n lv ha
    rw [upd_ne z]; exact e
  · by_cases z : b = a
    · subst z; rw [upd_same]; intro w; cases w
    · rw [upd_ne z]; exact e
  · rw [List.getElem?_eq_none h] at e; cases e
  · have z : b ≠ a := ne_of_none e h2
    rw [upd_ne z]; exact W.ext b u e
  · by_cases z : b = a
    · subst z; rw [upd_same]; intro w; cases w
    · rw [upd_ne z]; exact W.at_ m b e
  · rcases getO_set h with ⟨ne, h⟩ | ⟨rfl, h, _⟩
    · obtain ⟨b, v, k1, k2, k3, k4⟩ := W.liv m d h hd
      refine ⟨b, v, k1, k2, ?_, k4⟩
      have z : b ≠ a := fun z => by subst z; exact ne (W.inj m n b ⟨d, h, hd⟩ lv k1 ha)
      rw [upd_ne z]; exact k3
    · cases h
      exact ⟨a, o, ha, h2, upd_same, hr⟩
  · rcases getO_set h with ⟨_, h⟩ | ⟨_, h, _⟩
    · exact W.fT m kvs h
    · cases h; cases lq

/-! ### the same in single moves -/
/-- something outside of what is known changes -/
theorem Step.off (x : Step b g1 s1 H1 g s H) {p : Addr} {o : HO} (h : H1 p = none) : Step b g1 s1 H1 g s (upd H p o) where
  le := x.le
  keep := fun a u e hn => by rw [upd_ne (ne_of_none e h)]; exact x.keep a u e hn
  dom := fun a e => by
    by_cases z : a = p
    · subst z; exact absurd h e
    · rw [upd_ne z]; exact x.dom a e
  nt := fun a e => (x.nt a e).upd fun z => absurd h (z ▸ e.1)
  fresh := x.fresh
  own := x.own
  lm := x.lm
  grow := x.grow
theorem Wf.off (W : Wf K g s H) {p : Addr} {o : HO} (hf : g.F p = none) (hn : ∀ n : Nat, g.r[n]? ≠ some p) : Wf K g s (upd H p o) where
  ext := fun a u e => by rw [upd_ne (ne_of_none e hf)]; exact W.ext a u e
  len := W.len
  at_ := fun n a e => by
    have z : a ≠ p := fun z => by subst z; exact hn n e
    rw [upd_ne z]; exact W.at_ n a e
  liv := fun n q h hl => by
    obtain ⟨a, u, h1, h2, h3, h4⟩ := W.liv n q h hl
    have z : a ≠ p := fun z => by subst z; exact hn n h1
    exact ⟨a, u, h1, h2, by rw [upd_ne z]; exact h3, h4⟩
  fT := W.fT
  inj := W.inj
theorem le_adopt {p : Addr} {o : HO} (hf : g.F p = none) : g.le ⟨upd g.F p o, g.r⟩ := ⟨fun a u e => by
    show upd g.F p o a = some u
    rw [upd_ne (ne_of_none e hf)]; exact e, fun _ _ e => e⟩
/-- something that stands is known from here on -/
theorem Step.adopt (x : Step b g1 s1 H1 g s H) {p : Addr} {o : HO} (h : H1 p = none) (hf : g.F p = none) : Step b g1 s1 H1 ⟨upd g.F p o, g.r⟩ s H where
  le := x.le.trans (le_adopt hf)
  keep := x.keep
  dom := x.dom
  nt := x.nt
  fresh := fun a e f => by
    have z : a ≠ p := fun z => by subst z; exact absurd h e.1
    rcases x.fresh a e f with q | q
    · left
      show upd g.F p o a = none
      rw [upd_ne z]; exact q
    · exact .inr q
  own := x.own
  lm := x.lm
  grow := x.grow
theorem Wf.adopt (W : Wf K g s H) {p : Addr} {o : HO} (hf : g.F p = none) (hn : ∀ n : Nat, live s n → g.r[n]? ≠ some p) (h : H p = some o) : Wf K ⟨upd g.F p o, g.r⟩ s H where
  ext := fun a u e => by
    have e' : upd g.F p o a = some u := e
    by_cases z : a = p
    · subst z; rw [upd_same] at e'; cases e'; exact .inl h
    · rw [upd_ne z] at e'; exact W.ext a u e'
  len := W.len
  at_ := W.at_
  liv := fun n q hq hl => by
    obtain ⟨a, u, h1, h2, h3, h4⟩ := W.liv n q hq hl
    have z : a ≠ p := fun z => by subst z; exact hn n ⟨q, hq, hl⟩ h1
    refine ⟨a, u, h1, ?_, h3, h4.mono (le_adopt hf)⟩
    show upd g.F p o a = none
    rw [upd_ne z]; exact h2
  fT := fun n kvs h => by
    obtain ⟨a, kv, h1, h2, h3⟩ := W.fT n kvs h
    exact ⟨a, kv, h1, (le_adopt hf).F _ _ h2, h3.mono (le_adopt hf)⟩
  inj := W.inj
/-- a tuple that stands is known from here on -/
theorem Wf.learn (W : Wf K g s H) {p : Addr} {vs : List V} (h : H p = some (.tup vs)) : ∃ g', Step b g s H g' s H ∧ Wf K g' s H ∧ g'.F p = some (.tup vs) := by
  cases q : g.F p with
  | some o =>
    refine ⟨g, .refl, W, ?_⟩
    rcases W.ext p o q with e | ⟨_, _, e⟩
    · rw [h] at e; cases e; exact q
    · rw [h] at e; cases e
  | none =>
    refine ⟨⟨upd g.F p (.tup vs), g.r⟩, ⟨le_adopt q, fun _ _ e _ => e, fun _ e => e, fun _ e => e, fun a e f => .inl ?_, fun n a h e => ?_, fun _ e _ => e, Nat.le_refl _⟩, W.adopt q (fun n hl e => ?_) h, upd_same⟩
    · have z : a ≠ p := fun z => by subst z; exact e.2 vs h
      show upd g.F p _ a = none
      rw [upd_ne z]; exact f
    · have e' : g.r[n]? = some a := e
      rw [List.getElem?_eq_none h] at e'; cases e'
    · obtain ⟨c, hc, hl⟩ := hl
      obtain ⟨a, u, h1, h2, h3, h4⟩ := W.liv n c hc hl
      rw [e] at h1; cases h1
      rw [h] at h3; cases h3
      cases c <;> exact (show False from h4).elim
/-- something that stands is ours to change from here on -/
theorem le_push {p : Addr} : g.le ⟨g.F, g.r ++ [p]⟩ := ⟨fun _ _ e => e, fun n a e => by
    obtain ⟨h, _⟩ := List.getElem?_eq_some_iff.mp e
    show (g.r ++ [p])[n]? = some a
    rw [List.getElem?_append_left h]; exact e⟩
theorem push_spl {r : List Addr} {p : Addr} {n : Nat} {a : Addr} (e : (r ++ [p])[n]? = some a) : r[n]? = some a ∨ (n = r.length ∧ a = p) := by
  by_cases hi : n < r.length
  · rw [List.getElem?_append_left hi] at e; exact .inl e
  · by_cases z : n = r.length
    · subst z
      rw [List.getElem?_append_right (Nat.le_refl _), Nat.sub_self] at e
      exact .inr ⟨rfl, (Option.some.inj e).symm⟩
    · rw [List.getElem?_eq_none (by rw [List.length_append, List.length_singleton]; omega)] at e; cases e
theorem Step.take (x : Step b g1 s1 H1 g s H) (W : Wf K g s H) {p : Addr} {q : Ob} (h : H1 p = none) : Step b g1 s1 H1 ⟨g.F, g.r ++ [p]⟩ (s ++ [some q]) H where
  le := x.le.trans le_push
  keep := x.keep
  dom := x.dom
  nt := x.nt
  fresh := x.fresh
  own := fun n a hn e => by
    rcases push_spl e with e | ⟨_, rfl⟩
    · exact x.own n a hn e
    · exact h
  lm := fun n ⟨c, hc, hl⟩ hi => by
    rw [getO_push_old (Nat.lt_of_lt_of_le hi x.grow)] at hc
    exact x.lm n ⟨c, hc, hl⟩ hi
  grow := by rw [List.length_append]; have := x.grow; omega
theorem Wf.take (W : Wf K g s H) {p : Addr} {o : HO} {q : Ob} (hf : g.F p = none) (hn : ∀ n : Nat, g.r[n]? ≠ some p) (h : H p = some o) (hr : RepO K g o q) : Wf K ⟨g.F, g.r ++ [p]⟩ (s ++ [some q]) H ∧ Rep K ⟨g.F, g.r ++ [p]⟩ (.ref p) (.obj s.length) := by
  have at_p : (g.r ++ [p])[s.length]? = some p := by
    rw [W.len, List.getElem?_append_right (Nat.le_refl _), Nat.sub_self]; rfl
  have old : ∀ k, live (s ++ [some q]) k → k ≠ s.length → live s k := fun k ⟨c, h, hl⟩ ne => by
    rcases getO_push h with h | ⟨z, _⟩
    · exact ⟨c, h, hl⟩
    · exact absurd z ne
  refine ⟨⟨W.ext, by rw [List.length_append, List.length_append, W.len]; rfl, fun n a e => ?_, fun n c hc hl => ?_, fun n kvs hc => ?_, fun n m a ln lm en em => ?_⟩, .obj at_p⟩
  · rcases push_spl e with e | ⟨_, rfl⟩
    · exact W.at_ n a e
    · rw [h]; intro z; cases z
  · rcases getO_push hc with h' | ⟨rfl, h'⟩
    · obtain ⟨a, u, h1, h2, h3, h4⟩ := W.liv n c h' hl
      exact ⟨a, u, le_push.r _ _ h1, h2, h3, h4.mono le_push⟩
    · cases h'
      exact ⟨p, o, at_p, hf, h, hr.mono le_push⟩
  · rcases getO_push hc with h' | ⟨rfl, h'⟩
    · obtain ⟨a, kv, h1, h2, h3⟩ := W.fT n kvs h'
      exact ⟨a, kv, le_push.r _ _ h1, h2, h3.mono le_push⟩
    · cases h'
      cases Ob_live_of hr
  · rcases push_spl en with en1 | ⟨e1, e2⟩ <;> rcases push_spl em with em1 | ⟨e3, e4⟩
    · have : ∀ (k : Nat) (c : Addr), g.r[k]? = some c → k ≠ s.length := fun k c e z => by
        subst z; rw [W.len, List.getElem?_eq_none (Nat.le_refl _)] at e; cases e
      exact W.inj n m a (old n ln (this n a en1)) (old m lm (this m a em1)) en1 em1
    · exact absurd (e4 ▸ en1) (hn n)
    · exact absurd (e2 ▸ em1) (hn m)
    · rw [e1, e3]
/-- the rest of a step is a step -/
theorem Step.keep_new (x : Step b g1 s1 H1 g s H) {p : Addr} {o : HO} (h : H1 p = some o) (hn : ∀ n : Nat, g1.r[n]? ≠ some p) (nt : ∀ vs, o ≠ .tup vs) (hf : g1.F p = none) (W1 : Wf K g1 s1 H1) : H p = some o ∧ g.F p = none ∧ ∀ n : Nat, g.r[n]? ≠ some p := by
  refine ⟨x.keep p o h fun n _ e => hn n e, ?_, fun n e => ?_⟩
  · rcases x.fresh p (.of h nt) hf with q | ⟨n, _, e⟩
    · exact q
    · exact absurd e (hn n)
  · by_cases hi : n < g1.r.length
    · have e2 := x.le.r n _ (List.getElem?_eq_getElem hi)
      rw [e] at e2
      exact hn n (by rw [List.getElem?_eq_getElem hi]; exact e2.symm)
    · have := x.own n p (by omega) e
      rw [h] at this; cases this
end
end Fw

/-! Fw, part C: operations on values. -/
namespace Fw
open PySem PySem.Spec PyProof.Rows L2

theorem szl {n : Nat} (h : n ≤ ZL) : n ≤ sizeLine := Nat.le_trans h (by rw [sizeLine_eq]; decide)
theorem szl' {n : Nat} (h : n < ZL) : n < sizeLine := Nat.lt_of_lt_of_le h (by rw [sizeLine_eq]; decide)

/-- what a def promises, from what it is worth -/
def SpF (K : PySem.W.Frag) (n : Nat) (f : List D → Sto → Option (D × Sto)) : Sp := fun vs H Q _ => vs.length = n ∧ ∃ g ds s d s', RepL K g vs ds ∧ Wf K g s H ∧ f ds s = some (d, s') ∧
  ∀ v g' H', Step s.length g s H g' s' H' → Wf K g' s' H' → Rep K g' v d → Q v H'

section
variable {K : PySem.W.Frag} {b : Nat} {g g' : Gh} {s s' : Sto} {H H' : Hp}
theorem Wf.hL (W : Wf K g s H) {a : Addr} {vs : List V} (h : g.F a = some (.lst vs)) : H a = some (.lst vs) := by
  rcases W.ext a _ h with e | ⟨e, _⟩
  · exact e
  · cases e
theorem Wf.hT (W : Wf K g s H) {a : Addr} {vs : List V} (h : g.F a = some (.tup vs)) : H a = some (.tup vs) := by
  rcases W.ext a _ h with e | ⟨e, _⟩
  · exact e
  · cases e
theorem Wf.sqL (W : Wf K g s H) {a : Addr} {vs : List V} (h : SqL K g.F a vs) : SqL K H a vs := by
  rcases h with (h | ⟨o, h⟩) | h
  · exact .inl (.inl (W.hL h))
  · rcases W.ext a _ h with e | ⟨e, _⟩
    · exact .inl (.inr ⟨o, e⟩)
    · cases e
  · exact .inr h
/-- what the abstract heap knows, it goes on knowing -/
def Exx (H H' : Hp) : Prop := ∀ a o, H a = some o → H' a = some o
theorem Exx.refl (H : Hp) : Exx H H := fun _ _ h => h
theorem Exx.trans {A B C : Hp} (x : Exx A B) (y : Exx B C) : Exx A C := fun a o h => y a o (x a o h)
theorem Exx.new {p : Addr} {o : HO} (h : H p = none) : Exx H (upd H p o) := fun a u e => by rw [upd_ne (ne_of_none e h)]; exact e
theorem Exx.dom (e : Exx H H') {a : Addr} (h : H a ≠ none) : H' a ≠ none := fun z => by
  cases q : H a with
  | none => exact h q
  | some o =>
    rw [e a o q] at z
    cases z
theorem Wf.exx (W : Wf K g s H) (e : Exx H H') : Wf K g s H' where
  ext := fun a o h => by
    rcases W.ext a o h with q | ⟨q, od, q2⟩
    · exact .inl (e _ _ q)
    · exact .inr ⟨q, od, e _ _ q2⟩
  len := W.len
  at_ := fun n a h => e.dom (W.at_ n a h)
  liv := fun n q h hl => by
    obtain ⟨a, o, h1, h2, h3, h4⟩ := W.liv n q h hl
    exact ⟨a, o, h1, h2, e _ _ h3, h4⟩
  fT := W.fT
  inj := W.inj
theorem Step.exx (e : Exx H H') : Step b g s H g s H' where
  le := .refl g
  keep := fun a o h _ => e a o h
  dom := fun a h => e.dom h
  nt := fun a h => by
    cases q : H a with
    | none => exact absurd q h.1
    | some o => exact .of (e a o q) fun vs z => h.2 vs (z ▸ q)
  fresh := fun _ _ f => .inl f
  own := fun n a h q => by
    rw [List.getElem?_eq_none h] at q
    cases q
  lm := fun _ h _ => h
  grow := Nat.le_refl _
/-- a def that sees no changing object leaves all as it is -/
theorem Step.noObj {F : Hp} {s2 : Sto} {g2 : Gh} (W : Wf K ⟨F, []⟩ [] H) (x : Step 0 ⟨F, []⟩ [] H g2 s2 H') : Exx H H' := fun a o h => x.keep a o h fun n h _ => by
  have := live_lt h
  simp at this
theorem Wf.noObj (W : Wf K g s H) : Wf K ⟨g.F, []⟩ [] H := ⟨W.ext, rfl, fun n a h => by simp at h, fun n q h _ => by have := get_lt h; simp at this, fun n q h => by have := get_lt h; simp at this, fun n m a h => by have := live_lt h; simp at this⟩
/-- behind such a def: what it has made may be known -/
theorem Wf.pure (W : Wf K g s H) {g2 : Gh} {s2 : Sto} (x : Step 0 ⟨g.F, []⟩ [] H g2 s2 H') (W2 : Wf K g2 s2 H') : Step b g s H ⟨g2.F, g.r⟩ s H' ∧ Wf K ⟨g2.F, g.r⟩ s H' := by
  have e : Exx H H' := Step.noObj W.noObj x
  have le : g.le ⟨g2.F, g.r⟩ := ⟨x.le.F, fun _ _ h => h⟩
  have fr : ∀ a, NT H a → g.F a = none → g2.F a = none := fun a h f => by
    rcases x.fresh a h f with q | ⟨n, _, q⟩
    · exact q
    · simp at q
  refine ⟨⟨le, fun a o h _ => e a o h, x.dom, x.nt, fun a h f => .inl (fr a h f), fun n a h q => ?_, fun _ h _ => h, Nat.le_refl _⟩, ⟨W2.ext, W.len, fun n a h => x.dom a (W.at_ n a h), fun n q h hl => ?_, fun n kvs h => ?_, W.inj⟩⟩
  · have q' : g.r[n]? = some a := q
    rw [List.getElem?_eq_none h] at q'; cases q'
  · obtain ⟨a, o, h1, h2, h3, h4⟩ := W.liv n q h hl
    exact ⟨a, o, h1, fr a (.of h3 fun vs z => by subst z; cases q <;> exact (show False from h4).elim) h2, e _ _ h3, h4.mono le⟩
  · obtain ⟨a, kv, h1, h2, h3⟩ := W.fT n kvs h
    exact ⟨a, kv, h1, le.F _ _ h2, h3.mono le⟩

/-! ### results -/
/-- an outcome: the value d, the objects s' -/
def Post (K : PySem.W.Frag) (b : Nat) (g : Gh) (s : Sto) (H : Hp) (d : D) (s' : Sto) (Q : VK) : Prop := ∀ v g' H', Step b g s H g' s' H' → Wf K g' s' H' → Rep K g' v d → Q v H'
theorem Post.now {Q : VK} {d : D} {v : V} (W : Wf K g s H) (r : Rep K g v d) (q : Post K b g s H d s Q) : Q v H := q v g H .refl W r
theorem Post.tup {Q : VK} {ds : List D} {vs : List V} {p : Addr} (W : Wf K g s H) (r : RepL K g vs ds) (q : Post K b g s H (.tup ds) s Q) (hp : H p = none) : Q (.ref p) (upd H p (.tup vs)) := by
  obtain ⟨S, W'⟩ := W.new (b := b) (o := .tup vs) hp
  exact q _ _ _ S W' (.tup (show upd g.F p _ p = _ from upd_same) (r.mono S.le))
theorem Post.lst {Q : VK} {ds : List D} {vs : List V} {p : Addr} (W : Wf K g s H) (r : RepL K g vs ds) (q : Post K b g s H (.lst ds) s Q) (hp : H p = none) : Q (.ref p) (upd H p (.lst vs)) := by
  obtain ⟨S, W'⟩ := W.new (b := b) (o := .lst vs) hp
  exact q _ _ _ S W' (.lst (show upd g.F p _ p = _ from upd_same) (r.mono S.le))
theorem Post.newL {Q : VK} {ds : List D} {vs : List V} {p : Addr} (W : Wf K g s H) (r : RepL K g vs ds) (q : Post K b g s H (.obj s.length) (s ++ [some (.lst ds)]) Q) (hp : H p = none) : Q (.ref p) (upd H p (.lst vs)) := by
  obtain ⟨S, W', R⟩ := W.push (b := b) (o := .lst vs) (q := .lst ds) hp r
  exact q _ _ _ S W' R
theorem Post.newK {Q : VK} {ds : List (Key × D)} {vs : List (Key × V)} {p : Addr} (W : Wf K g s H) (r : RepM K g vs ds) (q : Post K b g s H (.obj s.length) (s ++ [some (.dK ds)]) Q) (hp : H p = none) : Q (.ref p) (upd H p (.dK vs)) := by
  obtain ⟨S, W', R⟩ := W.push (b := b) (o := .dK vs) (q := .dK ds) hp r
  exact q _ _ _ S W' R
theorem Post.newT {Q : VK} {p : Addr} (W : Wf K g s H) (q : Post K b g s H (.obj s.length) (s ++ [some (.dT [])]) Q) (hp : H p = none) : Q (.ref p) (upd H p (.dT [])) := by
  obtain ⟨S, W', R⟩ := W.push (b := b) (o := .dT []) (q := .dT []) hp RepM.nil
  exact q _ _ _ S W' R
theorem Post.write {Q : VK} {n : Nat} {a : Addr} {c q : Ob} {o : HO} {v : V} {d : D} (W : Wf K g s H) (hc : getO s n = some c) (hl : c.live = true) (ha : g.r[n]? = some a) (hr : RepO K g o q) (r : Rep K g v d) (p : Post K b g s H d (setO s n (some q)) Q) : Q v (upd H a o) := by
  obtain ⟨S, W'⟩ := W.write (b := b) hc hl ha hr
  exact p _ _ _ S W' r
/-- the list that object n is -/
theorem Wf.objL (W : Wf K g s H) {n : Nat} {xs : List D} (h : getO s n = some (.lst xs)) : ∃ a vs, g.r[n]? = some a ∧ H a = some (.lst vs) ∧ RepL K g vs xs := by
  obtain ⟨a, o, h1, _, h3, h4⟩ := W.liv n _ h rfl
  cases o with
  | lst vs => exact ⟨a, vs, h1, h3, h4⟩
  | _ => exact (show False from h4).elim
theorem Rep.objA {v : V} {n : Nat} (r : Rep K g v (.obj n)) : ∃ a, v = .ref a ∧ g.r[n]? = some a := by
  cases r with
  | obj h => exact ⟨_, rfl, h⟩
theorem Rep.at_ {v : V} {n : Nat} {a : Addr} (r : Rep K g v (.obj n)) (h : g.r[n]? = some a) : v = .ref a := by
  obtain ⟨a', rfl, e⟩ := r.objA
  rw [h] at e; cases e; rfl

/-! ### two-place operators -/
def OkR (K : PySem.W.Frag) (b : Nat) (r : R2) (f : Sto → D → D → Option D) : Prop := ∀ g s H x y d v u, f s x y = some d → Wf K g s H → Rep K g v x → Rep K g u y → ∀ Q : VK, Post K b g s H d s Q → r v u H Q

def rAddS : R2 := fun x y H Q => ∃ i j, x = .str i ∧ y = .str j ∧ i.length + j.length ≤ sizeLine ∧ Q (.str (i ++ j)) H
/-- t * 1 -/
def rRep1 (K : PySem.W.Frag) : R2 := fun x y H Q => ∃ l xs, x = .ref l ∧ y = .int 1 ∧ SqT K H l xs ∧ Q (.ref l) H
def rBin (K : PySem.W.Frag) : Op → R2
  | .add => fun x y H Q => (rI0 fun i j => .int (i + j)) x y H Q ∨ rAddS x y H Q ∨ rCatA K x y H Q ∨ rCat x y H Q
  | .sub => rI0 fun i j => .int (i - j)
  | .mul => fun x y H Q => (rI CMul fun i j => .int (i * j)) x y H Q ∨ rRepT K x y H Q ∨ rRep1 K x y H Q
  | .fdiv => rI CDivN fun i j => .int (i.fdiv j)
  | .mod => rI (fun _ j => j ≠ 0) fun i j => .int (i.fmod j)
  | .pow => rI CPow fun i j => .int (i ^ j.toNat)
  | .shl => rI CPow fun i j => .int (i * 2 ^ j.toNat)
theorem ok_bin : ∀ o : Op, OkR K b (rBin K o) (fun _ => evBin o)
  | .add => by
    intro g s H x y d v u h W rx ry Q q
    cases rx with
    | int i =>
      cases ry with
      | int j => simp only [evBin, Option.some.injEq] at h; subst h; exact .inl ⟨i, j, rfl, rfl, q.now W (.int _)⟩
      | _ => simp [evBin] at h
    | str i =>
      cases ry with
      | str j =>
        simp only [evBin] at h
        split at h
        · cases h; exact .inr (.inl ⟨i, j, rfl, rfl, szl (by assumption), q.now W (.str _)⟩)
        · cases h
      | _ => simp [evBin] at h
    | @tup a vs ds ha ra =>
      cases ry with
      | @tup c ws es hc rc =>
        simp only [evBin] at h
        split at h
        · cases h
          refine .inr (.inr (.inl ⟨a, c, vs, ws, rfl, rfl, .of (W.hT ha), .of (W.hT hc), ?_, fun e => ?_, fun e1 e2 => ?_, fun e1 e2 p hp => ?_⟩))
          · rw [ra.length, rc.length]; exact szl (by assumption)
          · subst e
            have := ra.length
            have e3 : ds = [] := List.eq_nil_of_length_eq_zero (by simpa using this.symm)
            subst e3
            exact q.now W (.tup hc rc)
          · subst e2
            have := rc.length
            have e3 : es = [] := List.eq_nil_of_length_eq_zero (by simpa using this.symm)
            subst e3
            rw [List.append_nil] at q
            exact q.now W (.tup ha ra)
          · exact q.tup W (ra.append rc) hp
        · cases h
      | _ => simp [evBin] at h
    | @lst a vs ds ha ra =>
      cases ry with
      | @lst c ws es hc rc =>
        simp only [evBin] at h
        split at h
        · cases h
          refine .inr (.inr (.inr ⟨a, c, vs, ws, rfl, rfl, W.hL ha, W.hL hc, ?_, fun p hp => q.lst W (ra.append rc) hp⟩))
          rw [ra.length, rc.length]; exact szl (by assumption)
        · cases h
      | _ => simp [evBin] at h
    | _ => simp [evBin] at h
  | .sub => by
    intro g s H x y d v u h W rx ry Q q
    cases rx <;> cases ry <;> simp [evBin] at h
    subst h; exact ⟨_, _, rfl, rfl, q.now W (.int _)⟩
  | .mul => by
    intro g s H x y d v u h W rx ry Q q
    cases rx with
    | int i =>
      cases ry with
      | int j =>
        simp only [evBin] at h
        split at h
        · cases h; exact .inl ⟨i, j, rfl, rfl, by assumption, q.now W (.int _)⟩
        · cases h
      | _ => simp [evBin] at h
    | @tup a vs ds ha ra =>
      cases ry with
      | int k =>
        simp only [evBin] at h
        split at h
        · rename_i c
          cases h
          by_cases k1 : k = 1
          · subst k1
            refine .inr (.inr ⟨a, vs, rfl, rfl, .of (W.hT ha), q.now W ?_⟩)
            have e : (List.replicate (Int.toNat 1) ds).flatten = ds := by simp
            rw [e]
            exact .tup ha ra
          · refine .inr (.inl ⟨a, k, vs, rfl, rfl, .of (W.hT ha), fun z => ?_, by omega, c.2.2.1, by rw [ra.length]; exact c.2.2.2, fun p hp => q.tup W (ra.flat _) hp⟩)
            subst z
            have := ra.length
            exact c.1 (List.eq_nil_of_length_eq_zero (by simpa using this.symm))
        · cases h
      | _ => simp [evBin] at h
    | _ => simp [evBin] at h
  | .fdiv => by
    intro g s H x y d v u h W rx ry Q q
    cases rx <;> cases ry <;> simp [evBin] at h
    obtain ⟨c, h⟩ := h
    subst h; exact ⟨_, _, rfl, rfl, c, q.now W (.int _)⟩
  | .mod => by
    intro g s H x y d v u h W rx ry Q q
    cases rx <;> cases ry <;> simp [evBin] at h
    obtain ⟨c, h⟩ := h
    subst h; exact ⟨_, _, rfl, rfl, c, q.now W (.int _)⟩
  | .pow => by
    intro g s H x y d v u h W rx ry Q q
    cases rx <;> cases ry <;> simp only [evBin, reduceCtorEq] at h
    split at h
    · cases h; exact ⟨_, _, rfl, rfl, by assumption, q.now W (.int _)⟩
    · cases h
  | .shl => by
    intro g s H x y d v u h W rx ry Q q
    cases rx <;> cases ry <;> simp only [evBin, reduceCtorEq] at h
    split at h
    · cases h; exact ⟨_, _, rfl, rfl, by assumption, q.now W (.int _)⟩
    · cases h

theorem flat_eq {v : V} {d : D} (r : Rep K g v d) : flatV v = flatD d := by cases r <;> rfl
theorem flat_all : ∀ {vs : List V} {ds : List D}, RepL K g vs ds → vs.all flatV = ds.all flatD
  | _, _, .nil => rfl
  | _, _, .cons h r => by rw [List.all_cons, List.all_cons, flat_eq h, flat_all r]
theorem eqF_eq {v u : V} {x y : D} (r : Rep K g v x) (q : Rep K g u y) (fx : flatD x = true) (fy : flatD y = true) : eqV v u = eqFD x y := by
  cases r <;> first | (cases fx; done) | (cases q <;> first | rfl | (cases fy; done))
theorem inF_eq {u : V} {y : D} (q : Rep K g u y) (fy : flatD y = true) : ∀ {vs : List V} {ds : List D}, RepL K g vs ds → ds.all flatD = true → vs.any (fun z => eqV z u) = ds.any fun z => eqFD z y
  | _, _, .nil, _ => rfl
  | _, _, .cons h r, f => by
    rw [List.all_cons, Bool.and_eq_true] at f
    rw [List.any_cons, List.any_cons, eqF_eq h q f.1 fy, inF_eq q fy r f.2]
mutual
theorem Rep.toDp (W : Wf K g s H) : ∀ {v : V} {d : D} {p : PyData}, Rep K g v d → d.toP = some p → Dp K H v p
  | _, _, _, .non, e => by simp [D.toP] at e; subst e; exact .non
  | _, _, _, .bl b, e => by simp [D.toP] at e; subst e; exact .bl b
  | _, _, _, .int b, e => by simp [D.toP] at e; subst e; exact .int b
  | _, _, _, .str b, e => by simp [D.toP] at e; subst e; exact .str b
  | _, .tup ds, _, .tup h r, e => by
    simp only [D.toP, Option.map_eq_some_iff] at e
    obtain ⟨ps, e1, rfl⟩ := e
    exact .tup (.of (W.hT h)) (RepL.toDp W r e1)
  | _, .lst ds, _, .lst h r, e => by
    simp only [D.toP, Option.map_eq_some_iff] at e
    obtain ⟨ps, e1, rfl⟩ := e
    exact .lst (.of (W.hL h)) (RepL.toDp W r e1)
  | _, _, _, .scr h, e => by simp [D.toP] at e
  | _, _, _, .obj h, e => by simp [D.toP] at e
theorem RepL.toDp (W : Wf K g s H) : ∀ {vs : List V} {ds : List D} {ps : List PyData}, RepL K g vs ds → toPL ds = some ps → DpAll K H vs ps
  | _, _, _, .nil, e => by simp [toPL] at e; subst e; exact .nil
  | _, d :: ds, _, .cons h r, e => by
    simp only [toPL] at e
    split at e
    · cases e; exact .cons (Rep.toDp W h (by assumption)) (RepL.toDp W r (by assumption))
    · cases e
end
theorem Wf.sq (W : Wf K g s H) {y : D} {u : V} {ys : List D} (r : Rep K g u y) (e : seqD y = some ys) : ∃ p vs, u = .ref p ∧ (SqL K H p vs ∨ SqT K H p vs) ∧ RepL K g vs ys := by
  cases r with
  | tup h q => simp [seqD] at e; subst e; exact ⟨_, _, rfl, .inr (.of (W.hT h)), q⟩
  | lst h q => simp [seqD] at e; subst e; exact ⟨_, _, rfl, .inl (.of (W.hL h)), q⟩
  | _ => simp [seqD] at e

def rCmp (K : PySem.W.Frag) : Cp → R2
  | .eq => rEq
  | .ne => rNe
  | .lt => rI0 fun i j => .bl (decide (i < j))
  | .le => rI0 fun i j => .bl (decide (i ≤ j))
  | .gt => rI0 fun i j => .bl (decide (j < i))
  | .ge => rI0 fun i j => .bl (decide (j ≤ i))
  | .isN => fun x y H Q => y = .non ∧ Q (.bl (decide (x = .non))) H
  | .notN => fun x y H Q => y = .non ∧ Q (.bl (!decide (x = .non))) H
  | .isin => fun x y H Q => rIn K false x y H Q ∨ rInD K x y H Q
theorem scal_eq {v u : V} {x y : D} {r : Bool} (rx : Rep K g v x) (ry : Rep K g u y) (h : scalEq x y = some r) : scal v u = true ∧ decide (v = u) = r := by
  cases rx <;> cases ry <;> simp only [scalEq, Option.some.injEq, reduceCtorEq] at h <;> subst h <;> first
    | exact ⟨rfl, decide_eq_true rfl⟩
    | exact ⟨rfl, decide_eq_false (fun z => by cases z)⟩
    | exact ⟨rfl, dec_int⟩
    | exact ⟨rfl, dec_bl⟩
    | exact ⟨rfl, dec_str⟩
theorem ok_cmp : ∀ o : Cp, OkR K b (rCmp K o) (fun _ x y => (evCmp o x y).map D.bl)
  | .eq => by
    intro g s H x y d v u h W rx ry Q q
    simp only [evCmp, Option.map_eq_some_iff] at h
    obtain ⟨r, h, rfl⟩ := h
    obtain ⟨h1, h2⟩ := scal_eq rx ry h
    exact ⟨h1, by rw [h2]; exact q.now W (.bl _)⟩
  | .ne => by
    intro g s H x y d v u h W rx ry Q q
    simp only [evCmp, Option.map_eq_some_iff] at h
    obtain ⟨_, ⟨r, h, rfl⟩, rfl⟩ := h
    obtain ⟨h1, h2⟩ := scal_eq rx ry h
    exact ⟨h1, by rw [h2]; exact q.now W (.bl _)⟩
  | .lt => by
    intro g s H x y d v u h W rx ry Q q
    cases rx <;> cases ry <;> simp [evCmp] at h
    subst h; exact ⟨_, _, rfl, rfl, q.now W (.bl _)⟩
  | .le => by
    intro g s H x y d v u h W rx ry Q q
    cases rx <;> cases ry <;> simp [evCmp] at h
    subst h; exact ⟨_, _, rfl, rfl, q.now W (.bl _)⟩
  | .gt => by
    intro g s H x y d v u h W rx ry Q q
    cases rx <;> cases ry <;> simp [evCmp] at h
    subst h; exact ⟨_, _, rfl, rfl, q.now W (.bl _)⟩
  | .ge => by
    intro g s H x y d v u h W rx ry Q q
    cases rx <;> cases ry <;> simp [evCmp] at h
    subst h; exact ⟨_, _, rfl, rfl, q.now W (.bl _)⟩
  | .isN => by
    intro g s H x y d v u h W rx ry Q q
    cases ry <;> try (simp [evCmp] at h; done)
    cases rx <;> simp [evCmp] at h <;> subst h <;> exact ⟨rfl, q.now W (.bl _)⟩
  | .notN => by
    intro g s H x y d v u h W rx ry Q q
    cases ry <;> try (simp [evCmp] at h; done)
    cases rx <;> simp [evCmp] at h <;> subst h <;> exact ⟨rfl, q.now W (.bl _)⟩
  | .isin => by
    intro g s H x y d v u h W rx ry Q q
    simp only [evCmp, Option.map_eq_some_iff] at h
    obtain ⟨r, h, rfl⟩ := h
    unfold inD at h
    split at h
    · rename_i ys hy
      split at h
      · rename_i c
        cases h
        obtain ⟨p, vs, rfl, hs, rs⟩ := W.sq ry hy
        refine .inl ⟨p, vs, rfl, hs, by rw [flat_eq rx]; exact c.1, by rw [flat_all rs]; exact c.2, ?_⟩
        show Q (.bl (inV v vs)) H
        unfold inV
        rw [inF_eq rx c.1 rs c.2]
        exact q.now W (.bl _)
      · split at h
        · rename_i xs p ps e1 e2
          split at h
          · rename_i c
            cases h
            exact .inr ⟨p, ps, rx.toDp W e1, ry.toDp W e2, c.1, c.2, q.now W (.bl _)⟩
          · cases h
        · cases h
    · cases h

/-! ### subscripts, slices -/
theorem at_rep {vs : List V} {ds : List D} {i : Int} {d : D} (r : RepL K g vs ds) (h : atI ds i = some d) : ∃ v, atI vs i = some v ∧ Rep K g v d := by
  unfold atI at h ⊢
  rw [r.length]
  cases e : ixN ds.length i with
  | none => rw [e] at h; cases h
  | some j =>
    rw [e] at h
    exact r.get (i := j) h
theorem at_ints {ns : List Int} {i k : Int} (h : atI ns i = some k) : atI (ns.map V.int) i = some (.int k) := by
  unfold atI at h ⊢
  rw [List.length_map]
  cases e : ixN ns.length i with
  | none => rw [e] at h; cases h
  | some j =>
    rw [e] at h
    show (ns.map V.int)[j]? = some (.int k)
    rw [List.getElem?_map, show ns[j]? = some k from h]; rfl
theorem ok_idx : OkR K b (rIx K) atD := by
  intro g s H x y d v u h W rx ry Q q
  cases ry with
  | int i =>
    cases rx with
    | tup ha ra =>
      obtain ⟨w, h1, h2⟩ := at_rep ra h
      exact .inr (.inl ⟨_, _, i, w, rfl, rfl, .of (W.hT ha), h1, q.now W h2⟩)
    | lst ha ra =>
      obtain ⟨w, h1, h2⟩ := at_rep ra h
      exact .inl ⟨_, _, i, w, rfl, rfl, .of (W.hL ha), h1, q.now W h2⟩
    | scr ha =>
      simp only [atD, Option.map_eq_some_iff] at h
      obtain ⟨k, h1, rfl⟩ := h
      exact .inl ⟨_, _, i, _, rfl, rfl, W.sqL ha, at_ints h1, q.now W (.int _)⟩
    | @obj a n ha =>
      simp only [atD] at h
      split at h
      · obtain ⟨a', vs, e1, e2, e3⟩ := W.objL (by assumption)
        rw [ha] at e1; cases e1
        obtain ⟨w, h1, h2⟩ := at_rep e3 h
        exact .inl ⟨_, _, i, w, rfl, rfl, .of e2, h1, q.now W h2⟩
      · cases h
    | _ => simp [atD] at h
  | _ => cases rx <;> simp [atD] at h

theorem cut_rep {vs : List V} {ds : List D} (r : RepL K g vs ds) (lo hi : Option Int) : RepL K g (cutV vs lo hi) (cutD ds lo hi) := by
  unfold cutV cutD
  rw [r.length]
  exact (r.drop _).take _
theorem cut_ints (ns : List Int) (lo hi : Option Int) : cutV (ns.map V.int) lo hi = (cutD ns lo hi).map V.int := by
  unfold cutV cutD
  rw [List.length_map, List.map_take, List.map_drop]
theorem cut_whole {α : Type} {xs : List α} {lo hi : Option Int} (h : HT.sIx xs.length 0 lo = 0 ∧ HT.sIx xs.length xs.length hi = xs.length) : cutD xs lo hi = xs := by
  unfold cutD
  rw [h.1, h.2, List.drop_zero, Nat.sub_zero, List.take_length]
def rSlAll (K : PySem.W.Frag) : V → Option Int → Option Int → Hp → VK → Prop := fun x lo hi H Q => rSlL K x lo hi H Q ∨ rSlA K x lo hi H Q
theorem ok_slc {x d : D} {v : V} {lo hi : Option Int} {Q : VK} (h : slcD x lo hi = some d) (W : Wf K g s H) (rx : Rep K g v x) (q : Post K b g s H d s Q) : rSlAll K v lo hi H Q := by
  cases rx with
  | @tup a vs ds ha ra =>
    simp only [slcD, Option.some.injEq] at h; subst h
    refine .inr ⟨a, vs, rfl, .of (W.hT ha), fun e => ?_, fun e p hp => q.tup W (cut_rep ra lo hi) hp⟩
    rw [ra.length] at e
    rw [cut_whole e] at q
    exact q.now W (.tup ha ra)
  | @lst a vs ds ha ra =>
    simp only [slcD, Option.some.injEq] at h; subst h
    exact .inl ⟨a, vs, rfl, .of (W.hL ha), fun p hp => q.lst W (cut_rep ra lo hi) hp⟩
  | @scr a ns ha =>
    simp only [slcD, Option.some.injEq] at h; subst h
    exact .inl ⟨a, _, rfl, W.sqL ha, fun p hp => by
      rw [cut_ints]
      exact q.lst W (RepL.ints _) hp⟩
  | _ => simp [slcD] at h

/-! ### dicts -/
theorem Wf.objK (W : Wf K g s H) {n : Nat} {xs : List (Key × D)} (h : getO s n = some (.dK xs)) : ∃ a vs, g.r[n]? = some a ∧ H a = some (.dK vs) ∧ RepM K g vs xs := by
  obtain ⟨a, o, h1, _, h3, h4⟩ := W.liv n _ h rfl
  cases o with
  | dK vs => exact ⟨a, vs, h1, h3, h4⟩
  | _ => exact (show False from h4).elim
theorem Wf.objT (W : Wf K g s H) {n : Nat} {xs : List (List Key × D)} (h : getO s n = some (.dT xs)) : ∃ a vs, g.r[n]? = some a ∧ H a = some (.dT vs) ∧ RepM K g vs xs := by
  obtain ⟨a, o, h1, _, h3, h4⟩ := W.liv n _ h rfl
  cases o with
  | dT vs => exact ⟨a, vs, h1, h3, h4⟩
  | _ => exact (show False from h4).elim
theorem Wf.objF (W : Wf K g s H) {n : Nat} {xs : List (List Key × D)} (h : getO s n = some (.fT xs)) : ∃ a vs, g.r[n]? = some a ∧ Rd H a (.dT vs) ∧ RepM K g vs xs := by
  obtain ⟨a, kv, h1, h2, h3⟩ := W.fT n _ h
  refine ⟨a, kv, h1, ?_, h3⟩
  rcases W.ext a _ h2 with e | ⟨_, od, e⟩
  · exact .inl e
  · exact .inr ⟨od, e⟩
theorem ok_look {x k : D} {v u : V} {o : Option D} (h : dLook s x k = some o) (W : Wf K g s H) (rx : Rep K g v x) (rk : Rep K g u k) : ∃ a w, v = .ref a ∧ DGet H a u w ∧ (∀ d, o = some d → ∃ z, w = some z ∧ Rep K g z d) ∧ (o = none → w = none) := by
  cases rx with
  | @obj a n ha =>
    simp only [dLook] at h
    split at h
    · rename_i kvs hk
      obtain ⟨a', vs, e1, e2, e3⟩ := W.objK hk
      rw [ha] at e1; cases e1
      simp only [Option.map_eq_some_iff] at h
      obtain ⟨k', h1, rfl⟩ := h
      refine ⟨a, _, rfl, .inl ⟨vs, k', .inl e2, rk.key h1, rfl⟩, (e3.look k').1, (e3.look k').2⟩
    · rename_i kvs hk
      obtain ⟨a', vs, e1, e2, e3⟩ := W.objT hk
      rw [ha] at e1; cases e1
      cases rk with
      | @tup c ws ds hc rc =>
        simp only [Option.map_eq_some_iff] at h
        obtain ⟨k', h1, rfl⟩ := h
        have ew := rc.keys h1
        subst ew
        exact ⟨a, _, rfl, .inr ⟨vs, k', c, .inl e2, rfl, W.hT hc, rfl⟩, (e3.look k').1, (e3.look k').2⟩
      | _ => simp at h
    · rename_i kvs hk
      obtain ⟨a', vs, e1, e2, e3⟩ := W.objF hk
      rw [ha] at e1; cases e1
      cases rk with
      | @tup c ws ds hc rc =>
        simp only [Option.map_eq_some_iff] at h
        obtain ⟨k', h1, rfl⟩ := h
        have ew := rc.keys h1
        subst ew
        exact ⟨a, _, rfl, .inr ⟨vs, k', c, e2, rfl, W.hT hc, rfl⟩, (e3.look k').1, (e3.look k').2⟩
      | _ => simp at h
    · cases h
  | _ => simp [dLook] at h

/-! ### built-in functions -/
theorem ok_len {x : D} {v : V} {n : Nat} (h : lenD s x = some n) (W : Wf K g s H) (rx : Rep K g v x) : LenV K v H n := by
  cases rx with
  | tup ha ra => simp [lenD] at h; subst h; exact .inr ⟨_, .of (W.hT ha), ra.length.symm⟩
  | lst ha ra => simp [lenD] at h; subst h; exact .inl ⟨_, .of (W.hL ha), ra.length.symm⟩
  | scr ha => simp [lenD] at h; subst h; exact .inl ⟨_, W.sqL ha, by rw [List.length_map]⟩
  | str y =>
    simp only [lenD] at h
    split at h
    · cases h; exact ⟨szl (by assumption), rfl⟩
    · cases h
  | obj ha =>
    simp only [lenD] at h
    split at h
    · cases h
      obtain ⟨a', vs, e1, e2, e3⟩ := W.objL (by assumption)
      rw [ha] at e1; cases e1
      exact .inl ⟨_, .of e2, e3.length.symm⟩
    · cases h
  | _ => simp [lenD] at h
theorem ok_seq {x : D} {v : V} {ds : List D} (h : listD s x = some ds) (W : Wf K g s H) (rx : Rep K g v x) : ∃ a vs, v = .ref a ∧ RepL K g vs ds ∧ (SqL K H a vs ∨ (SqT K H a vs ∧ x = .tup ds)) := by
  cases rx with
  | tup ha ra => simp [listD] at h; subst h; exact ⟨_, _, rfl, ra, .inr ⟨.of (W.hT ha), rfl⟩⟩
  | lst ha ra => simp [listD] at h; subst h; exact ⟨_, _, rfl, ra, .inl (.of (W.hL ha))⟩
  | obj ha =>
    simp only [listD] at h
    split at h
    · cases h
      obtain ⟨a', vs, e1, e2, e3⟩ := W.objL (by assumption)
      rw [ha] at e1; cases e1
      exact ⟨_, _, rfl, e3, .inl (.of e2)⟩
    · cases h
  | _ => simp [listD] at h
def rB1 (K : PySem.W.Frag) : B1 → List V → Hp → VK → Prop
  | .len => fun xs H Q => ∃ (x : V) (n : Nat), xs = [x] ∧ LenV K x H n ∧ Q (.int n) H
  | .abs => fun xs H Q => ∃ i, xs = [.int i] ∧ Q (.int (if i < 0 then -i else i)) H
  | .int => fun xs H Q => (∃ i, xs = [.int i] ∧ Q (.int i) H) ∨ ∃ k, xs = [.bl k] ∧ Q (.int (if k then 1 else 0)) H
  | .bool => fun xs H Q => (∃ i, xs = [.int i] ∧ Q (.bl (i != 0)) H) ∨ ∃ k, xs = [.bl k] ∧ Q (.bl k) H
  | .sum => rSum K
  | .tup => fun xs H Q => ∃ p ys, xs = [.ref p] ∧ ((SqL K H p ys ∧ ∀ l, H l = none → Q (.ref l) (upd H l (.tup ys))) ∨ (SqT K H p ys ∧ Q (.ref p) H))
  | .lst => fun xs H Q => ∃ p ys, xs = [.ref p] ∧ (SqL K H p ys ∨ SqT K H p ys) ∧ ∀ l, H l = none → Q (.ref l) (upd H l (.lst ys))
theorem ok_b1 {f : B1} {x d : D} {v : V} {Q : VK} (h : evB1 s f x = some d) (W : Wf K g s H) (rx : Rep K g v x) (q : Post K b g s H d s Q) : rB1 K f [v] H Q := by
  cases f with
  | len =>
    simp only [evB1, Option.map_eq_some_iff] at h
    obtain ⟨n, h1, rfl⟩ := h
    exact ⟨v, n, rfl, ok_len h1 W rx, q.now W (.int _)⟩
  | abs =>
    cases rx with
    | int i => simp only [evB1, Option.some.injEq] at h; subst h; exact ⟨i, rfl, q.now W (.int _)⟩
    | _ => simp [evB1] at h
  | int =>
    cases rx with
    | int i => simp only [evB1, Option.some.injEq] at h; subst h; exact .inl ⟨i, rfl, q.now W (.int _)⟩
    | bl i => simp only [evB1, Option.some.injEq] at h; subst h; exact .inr ⟨i, rfl, q.now W (.int _)⟩
    | _ => simp [evB1] at h
  | bool =>
    cases rx with
    | int i => simp only [evB1, Option.some.injEq] at h; subst h; exact .inl ⟨i, rfl, q.now W (.bl _)⟩
    | bl i => simp only [evB1, Option.some.injEq] at h; subst h; exact .inr ⟨i, rfl, q.now W (.bl _)⟩
    | _ => simp [evB1] at h
  | sum =>
    cases rx with
    | lst ha ra =>
      simp only [evB1, Option.map_eq_some_iff] at h
      obtain ⟨n, h1, rfl⟩ := h
      obtain ⟨ns, e1, e2⟩ := ra.sums h1
      subst e1 e2
      exact ⟨_, ns, rfl, .of (W.hL ha), q.now W (.int _)⟩
    | _ => simp [evB1] at h
  | tup =>
    simp only [evB1, Option.map_eq_some_iff] at h
    obtain ⟨ds, h1, rfl⟩ := h
    obtain ⟨a, vs, rfl, r, c⟩ := ok_seq h1 W rx
    rcases c with c | ⟨c, rfl⟩
    · exact ⟨a, vs, rfl, .inl ⟨c, fun l hl => q.tup W r hl⟩⟩
    · exact ⟨a, vs, rfl, .inr ⟨c, q.now W rx⟩⟩
  | lst =>
    simp only [evB1, Option.map_eq_some_iff] at h
    obtain ⟨ds, h1, rfl⟩ := h
    obtain ⟨a, vs, rfl, r, c⟩ := ok_seq h1 W rx
    exact ⟨a, vs, rfl, c.imp id (·.1), fun l hl => q.lst W r hl⟩
theorem ok_tru {x : D} {v : V} {k : Bool} (h : truD s x = some k) (W : Wf K g s H) (rx : Rep K g v x) : TruV K v H k := by
  have emp : ∀ {vs : List V} {ds : List D}, RepL K g vs ds → (!ds.isEmpty) = !vs.isEmpty := fun r => by cases r <;> rfl
  cases rx with
  | non => simp only [truD, Option.some.injEq] at h; exact (show k = false from h.symm)
  | bl c => simp only [truD, Option.some.injEq] at h; exact (show k = c from h.symm)
  | int c => simp only [truD, Option.some.injEq] at h; exact (show k = (c != 0) from h.symm)
  | str y =>
    simp only [truD] at h
    split at h
    · cases h; exact ⟨szl (by assumption), rfl⟩
    · cases h
  | tup ha ra => simp only [truD, Option.some.injEq] at h; exact .inr (.inl ⟨_, .of (W.hT ha), by rw [← h, emp ra]⟩)
  | lst ha ra => simp only [truD, Option.some.injEq] at h; exact .inl ⟨_, .of (W.hL ha), by rw [← h, emp ra]⟩
  | scr ha => simp [truD] at h
  | obj ha =>
    simp only [truD] at h
    split at h
    · obtain ⟨a', vs, e1, e2, e3⟩ := W.objL (by assumption)
      rw [ha] at e1; cases e1
      simp only [Option.some.injEq] at h
      exact .inl ⟨_, .of e2, by rw [← h, emp e3]⟩
    · cases h
def tyN : Ty → String
  | .tuple => "tuple"
  | .list => "list"
  | .str => "str"
  | .int => "int"
  | .bool => "bool"
theorem ok_isi {x : D} {v : V} {c : Ty} {k : Bool} (h : isID s x c = some k) (W : Wf K g s H) (rx : Rep K g v x) {Q : VK} (q : Q (.bl k) H) : rIsi K [v, .ty (tyN c)] H Q := by
  have fin : ∀ {T : String}, TyX K H v (.type T) → kitB T (tyN c) = some k → rIsi K [v, .ty (tyN c)] H Q := fun {T} t e => ⟨v, .ty (tyN c), .type T, .type (tyN c), k, rfl, .ty _, t, kit_ty e, q⟩
  cases rx with
  | non => refine fin (.base .non) ?_; simp [isID] at h; subst h; cases c <;> decide +kernel
  | bl y => refine fin (.base (.bl y)) ?_; cases c <;> simp [isID] at h <;> subst h <;> decide +kernel
  | int y => refine fin (.base (.int y)) ?_; cases c <;> simp [isID] at h <;> subst h <;> decide +kernel
  | str y => refine fin (.base (.str y)) ?_; cases c <;> simp [isID] at h <;> subst h <;> decide +kernel
  | tup ha ra => refine fin (.base (.tup (W.hT ha))) ?_; cases c <;> simp [isID] at h <;> subst h <;> decide +kernel
  | lst ha ra => refine fin (.base (.lst (W.hL ha))) ?_; cases c <;> simp [isID] at h <;> subst h <;> decide +kernel
  | scr ha => simp [isID] at h
  | obj ha =>
    simp only [isID] at h
    split at h
    · obtain ⟨a', vs, e1, e2, e3⟩ := W.objL (by assumption)
      rw [ha] at e1; cases e1
      refine fin (.base (.lst e2)) ?_
      cases c <;> simp at h <;> subst h <;> decide +kernel
    · cases h
      obtain ⟨a', vs, e1, e2, e3⟩ := W.objK (by assumption)
      rw [ha] at e1; cases e1
      exact fin (.base (.dK e2)) (by cases c <;> decide +kernel)
    · cases h
      obtain ⟨a', vs, e1, e2, e3⟩ := W.objT (by assumption)
      rw [ha] at e1; cases e1
      exact fin (.base (.dT e2)) (by cases c <;> decide +kernel)
    · cases h
end
end Fw

/-! Fw, part D: the readings of our syntax, and that what the evaluator says holds of them. -/
namespace Fw
open PySem PySem.Spec PyProof.Rows L2

/-- sorted(xs, key=f), xs a list of tuples at an address, f gives the first, an int -/
def tSortK (ta : TE) : TE := fun σ H Q => ta σ H fun x H1 => ∃ (l : Addr) (vs : List V) (ks : List Int), x = .ref l ∧ H1 l = some (.lst vs) ∧ vs.length = ks.length ∧ vs.length ≤ 60 ∧
  (∀ (i : Nat) (v : V) (k : Int), vs[i]? = some v → ks[i]? = some k → ∃ (a : Addr) (us : List V), v = .ref a ∧ H1 a = some (.tup (.int k :: us))) ∧
  ∀ p, H1 p = none → Q (.ref p) (upd H1 p (.lst ((sortK (ks.zip vs)).map (·.2))))
/-- a list or a tuple is gone through -/
def iSeq (K : PySem.W.Frag) (tl : TE) : TI := fun σ H R => tl σ H fun x H1 => ∃ a, x = .ref a ∧ (((∃ xs, SqL K H1 a xs) ∧ R (Itl K a) H1) ∨ ((∃ xs, SqT K H1 a xs) ∧ R (Itt K a) H1))

structure Rc where
  K : PySem.W.Frag
  fn : Nat → List D → Sto → Option (D × Sto)
  ar : Nat → Nat

def Gs.n : Gs → Nat
  | .nil => 0
  | .cons _ r => r.n + 1
mutual
def rdG (K : PySem.W.Frag) : G → TG
  | .name i => gName i
  | .tup gs => gTup K gs.n (rdGs K gs)
def rdGs (K : PySem.W.Frag) : Gs → TGs
  | .nil => gNil
  | .cons g gs => gCons (rdG K g) (rdGs K gs)
end
mutual
def rdE (c : Rc) : E → TE
  | .var i => tVar i
  | .non => tC .non
  | .bl b => tC (.bl b)
  | .int i => tC (.int i)
  | .str x => tC (.str x)
  | .tup es => tTup (rdEs c es)
  | .lst es => tLst (rdEs c es)
  | .newL es => tLst (rdEs c es)
  | .newK => tDNewK
  | .newT => tDNewT
  | .disp ks es => tDisp (rdDs c ks es)
  | .bin o a b => tOp (rBin c.K o) (rdE c a) (rdE c b)
  | .cmp o a b => tOp (rCmp c.K o) (rdE c a) (rdE c b)
  | .chn o o' a b d => tChain (rCmp c.K o) (rCmp c.K o') (rdE c a) (rdE c b) (rdE c d)
  | .not a => tNotV (rdE c a)
  | .and a b => tAndV (rdE c a) (rdE c b)
  | .or a b => tOrV (rdE c a) (rdE c b)
  | .ife t a b => tIf (rdT c t) (rdE c a) (rdE c b)
  | .idx a b => tOp (rIx c.K) (rdE c a) (rdE c b)
  | .dget a k => tDGet (rdE c a) (rdE c k)
  | .dnin k a => tDNotIn (rdE c k) (rdE c a)
  | .din k a => tDIn (rdE c k) (rdE c a)
  | .slc a lo hi => tSl (rSlAll c.K) (rdE c a) (rdO c lo) (rdO c hi)
  | .call _ i es => tCall (SpF c.K (c.ar i) (c.fn i)) [] E0 (rdEs c es)
  | .callK _ i perm es ks => tCallK (SpF c.K (c.ar i) (c.fn i)) (permL .non es.n perm) E0 (rdEs c es) (rdEs c ks)
  | .b1 f a => tCB (rB1 c.K f) (tCons (rdE c a) tNil)
  | .newLst a => tCB (rB1 c.K .lst) (tCons (rdE c a) tNil)
  | .tupRg a => tTupRg (tRg1 (rdE c a))
  | .max2 a b => tCB (fun xs H Q => ∃ i j, xs = [.int i, .int j] ∧ Q (.int (if j > i then j else i)) H) (tCons (rdE c a) (tCons (rdE c b) tNil))
  | .isI a t => tCB (rIsi c.K) (tCons (rdE c a) (tCons (tC (.ty (tyN t))) tNil))
  | .join a b => tM1 (fun x xs H Q => ∃ a p, ∃ ys : List Str, x = .str a ∧ xs = [.ref p] ∧ (SqL c.K H p (ys.map V.str) ∨ SqT c.K H p (ys.map V.str)) ∧ (ys.map (·.length)).sum + ys.length * a.length ≤ 16777216 ∧ Q (.str (Txt.join a ys)) H) (rdE c a) (rdE c b)
  | .pop a => tBM0 c.K "list" rPop (rdE c a)
  | .popAt a b => tBM c.K "list" rPopAt (rdE c a) (tCons (rdE c b) tNil)
  | .app a b => tBM c.K "list" rAppend (rdE c a) (tCons (rdE c b) tNil)
  | .ext a b => tBM c.K "list" rExtend (rdE c a) (tCons (rdE c b) tNil)
  | .newSort a => tSortK (rdE c a)
  | .lc g it t e own => tLc (rdI c it) (rdG c.K g) (rdT c t) (rdE c e) own
def rdEs (c : Rc) : Es → TA
  | .nil => tNil
  | .cons e es => tCons (rdE c e) (rdEs c es)
def rdDs (c : Rc) : List Str → Es → List (TE × TE)
  | k :: ks, .cons e es => (tC (.str k), rdE c e) :: rdDs c ks es
  | _, .nil => []
  | [], .cons e es => (tC .non, rdE c e) :: rdDs c [] es
def rdO (c : Rc) : Oe → TO
  | .none => tNoPart
  | .some e => tPart (rdE c e)
def rdT (c : Rc) : T → TT
  | .yes => tYes
  | .tru e => fun σ H Q => rdE c e σ H fun x H' => ∃ k, TruV c.K x H' k ∧ Q k H'
  | .val e => tTest (rdE c e)
  | .and a b => tAnd (rdT c a) (rdT c b)
  | .or a b => tOr (rdT c a) (rdT c b)
  | .not a => tNot (rdT c a)
def rdI (c : Rc) : It → TI
  | .seq e => iSeq c.K (rdE c e)
  | .rng1 e => iRng1 (tCons (rdE c e) tNil)
  | .rng2 a b => iRng2 (tCons (rdE c a) (tCons (rdE c b) tNil))
  | .zip a b => RZ.iZipA c.K (tCons (rdE c a) (tCons (rdE c b) tNil))
  | .keys i => iKeys (tVar i)
end
mutual
def rdS (c : Rc) : S → TS
  | .asg g e => tAsg (rdE c e) (rdG c.K g)
  | .par i j a b => tPar i j (tCons (rdE c a) (tCons (rdE c b) tNil))
  | .seti o i e => tAsg (rdE c e) (gSub (rdE c o) (rdE c i) rSetL)
  | .dput o k e => sDPut (rdE c o) (rdE c k) (rdE c e)
  | .expr e => tDrop (rdE c e)
  | .ret e => tRet (rdE c e)
  | .ife t a b => tIfS (rdT c t) (rdSs c a) (rdSs c b)
  | .whl t b => tWhile (rdT c t) (rdSs c b)
  | .for_ g it b => match it with
    | .keys i => tLock (tFor (iKeys (tVar i)) (rdG c.K g) (rdSs c b))
    | it' => tFor (rdI c it') (rdG c.K g) (rdSs c b)
  | .never => tNever
  | .pass => tNext
  | .brk => tBreak
  | .cont => tCont
def rdSs (c : Rc) : Ss → TS
  | .nil => tNext
  | .cons s ss => tSeq (rdS c s) (rdSs c ss)
  | .frz _ ss => rdSs c ss
end
end Fw

/-! Fw, part E: what the evaluator says holds of the readings: expressions. -/
namespace Fw
open PySem PySem.Spec PyProof.Rows L2

section
variable {K : PySem.W.Frag} {b : Nat} {g g1 g' : Gh} {s s1 s' : Sto} {H H1 H' : Hp} {env : En} {σ : L2.St}

theorem Post.after {Q : VK} {d : D} (W : Wf K g s H) (S : Step b g s H g1 s1 H1) (W1 : Wf K g1 s1 H1) (q : Post K b g s H d s' Q) : Post K b g1 s1 H1 d s' Q := fun v g2 H2 S2 W2 r => q v g2 H2 (S.trans W W1 S2) W2 r
def PostL (K : PySem.W.Frag) (b : Nat) (g : Gh) (s : Sto) (H : Hp) (ds : List D) (s' : Sto) (Q : List V → Hp → Prop) : Prop := ∀ vs g' H', Step b g s H g' s' H' → Wf K g' s' H' → RepL K g' vs ds → Q vs H'
def PostT (K : PySem.W.Frag) (b : Nat) (g : Gh) (s : Sto) (H : Hp) (r : Bool) (s' : Sto) (Q : Bool → Hp → Prop) : Prop := ∀ g' H', Step b g s H g' s' H' → Wf K g' s' H' → Q r H'
def PostO (K : PySem.W.Frag) (b : Nat) (g : Gh) (s : Sto) (H : Hp) (r : Option Int) (s' : Sto) (Q : Option Int → Hp → Prop) : Prop := ∀ g' H', Step b g s H g' s' H' → Wf K g' s' H' → Q r H'

def OkE (K : PySem.W.Frag) (b : Nat) (env : En) (te : TE) (f : Sto → Option (D × Sto)) : Prop := ∀ g s σ H d s', f s = some (d, s') → Wf K g s H → EnR K g env σ → ∀ Q : VK, Post K b g s H d s' Q → te σ H Q
def OkA (K : PySem.W.Frag) (b : Nat) (env : En) (te : TA) (f : Sto → Option (List D × Sto)) : Prop := ∀ g s σ H d s', f s = some (d, s') → Wf K g s H → EnR K g env σ → ∀ Q, PostL K b g s H d s' Q → te σ H Q
def OkT (K : PySem.W.Frag) (b : Nat) (env : En) (te : TT) (f : Sto → Option (Bool × Sto)) : Prop := ∀ g s σ H d s', f s = some (d, s') → Wf K g s H → EnR K g env σ → ∀ Q, PostT K b g s H d s' Q → te σ H Q
def OkO (K : PySem.W.Frag) (b : Nat) (env : En) (te : TO) (f : Sto → Option (Option Int × Sto)) : Prop := ∀ g s σ H d s', f s = some (d, s') → Wf K g s H → EnR K g env σ → ∀ Q, PostO K b g s H d s' Q → te σ H Q

/-! what is gone through -/
def Src.at_ : Src → Sto → Nat → Option D
  | .vals l, _, i => l[i]?
  | .objl n _, s, i => match getO s n with
    | some (.lst xs) => xs[i]?
    | _ => none
def Src.stop : Src → Sto → Nat → Prop
  | .vals l, _, i => l.length ≤ i
  | .objl n _, s, i => ∃ xs, getO s n = some (.lst xs) ∧ xs.length ≤ i
structure Goes (K : PySem.W.Frag) (b : Nat) (g : Gh) (s : Sto) (H : Hp) (J : L2.It) (src : Src) : Prop where
  item : ∀ (i : Nat) g2 s2 H2 d, Step b g s H g2 s2 H2 → Wf K g2 s2 H2 → src.at_ s2 i = some d → J.go i H2 ∧ ∀ x H3, J.yld i H2 x H3 → ∃ g3, Step b g2 s2 H2 g3 s2 H3 ∧ Wf K g3 s2 H3 ∧ Rep K g3 x d
  done : ∀ (i : Nat) g2 s2 H2, Step b g s H g2 s2 H2 → Wf K g2 s2 H2 → src.stop s2 i → J.stop i H2
def OkI (K : PySem.W.Frag) (b : Nat) (env : En) (te : TI) (f : Sto → Option (Src × Sto)) : Prop := ∀ g s σ H src s', f s = some (src, s') → Wf K g s H → EnR K g env σ → ∀ R : L2.It → Hp → Prop,
  (∀ J g' H', Step b g s H g' s' H' → Wf K g' s' H' → Goes K b g' s' H' J src → R J H') → te σ H R

theorem goes_lst {a : Addr} {vs : List V} {ds : List D} (h : g.F a = some (.lst vs)) (r : RepL K g vs ds) : Goes K b g s H (Itl K a) (.vals ds) where
  item := fun i g2 s2 H2 d st W hi => by
    have e := st.le
    obtain ⟨v, h1, h2⟩ := (r.mono e).get (i := i) hi
    have hs : SqL K H2 a vs := .of (W.hL (e.F _ _ h))
    refine ⟨⟨vs, v, hs, h1⟩, fun x H3 y => ?_⟩
    obtain ⟨rfl, y⟩ := y
    have := (y vs hs).symm.trans h1
    cases this
    exact ⟨g2, .refl, W, h2⟩
  done := fun i g2 s2 H2 st W hi => ⟨vs, .of (W.hL (st.le.F _ _ h)), by rw [r.length]; exact hi⟩
theorem goes_tup {a : Addr} {vs : List V} {ds : List D} (h : g.F a = some (.tup vs)) (r : RepL K g vs ds) : Goes K b g s H (Itt K a) (.vals ds) where
  item := fun i g2 s2 H2 d st W hi => by
    have e := st.le
    obtain ⟨v, h1, h2⟩ := (r.mono e).get (i := i) hi
    have hs : SqT K H2 a vs := .of (W.hT (e.F _ _ h))
    refine ⟨⟨vs, v, hs, h1⟩, fun x H3 y => ?_⟩
    obtain ⟨rfl, y⟩ := y
    have := (y vs hs).symm.trans h1
    cases this
    exact ⟨g2, .refl, W, h2⟩
  done := fun i g2 s2 H2 st W hi => ⟨vs, .of (W.hT (st.le.F _ _ h)), by rw [r.length]; exact hi⟩
theorem goes_scr {a : Addr} {ns : List Int} (h : SqL K g.F a (ns.map V.int)) : Goes K b g s H (Itl K a) (.vals (ns.map .int)) where
  item := fun i g2 s2 H2 d st W hi => by
    have e := st.le
    have hi' : (ns.map D.int)[i]? = some d := hi
    obtain ⟨v, h1, h2⟩ := (RepL.ints (K := K) (g := g2) ns).get (i := i) hi'
    have hs : SqL K H2 a (ns.map V.int) := W.sqL (sqL_le e.F h)
    refine ⟨⟨_, v, hs, h1⟩, fun x H3 y => ?_⟩
    obtain ⟨rfl, y⟩ := y
    have := (y _ hs).symm.trans h1
    cases this
    exact ⟨g2, .refl, W, h2⟩
  done := fun i g2 s2 H2 st W hi => ⟨_, W.sqL (sqL_le st.le.F h), by
    have hi' : (ns.map D.int).length ≤ i := hi
    rw [List.length_map] at hi' ⊢; exact hi'⟩
theorem goes_obj {a : Addr} {n k : Nat} (h : g.r[n]? = some a) : Goes K b g s H (Itl K a) (.objl n k) where
  item := fun i g2 s2 H2 d st W hi => by
    have e := st.le
    simp only [Src.at_] at hi
    split at hi
    · rename_i xs hx
      obtain ⟨a', vs, e1, e2, e3⟩ := W.objL hx
      rw [e.r _ _ h] at e1; cases e1
      obtain ⟨v, h1, h2⟩ := e3.get (i := i) hi
      refine ⟨⟨vs, v, .of e2, h1⟩, fun x H3 y => ?_⟩
      obtain ⟨rfl, y⟩ := y
      have := (y vs (.of e2)).symm.trans h1
      cases this
      exact ⟨g2, .refl, W, h2⟩
    · cases hi
  done := fun i g2 s2 H2 st W hi => by
    have e := st.le
    obtain ⟨xs, hx, hl⟩ := hi
    obtain ⟨a', vs, e1, e2, e3⟩ := W.objL hx
    rw [e.r _ _ h] at e1; cases e1
    exact ⟨vs, .of e2, by rw [e3.length]; exact hl⟩
theorem goes_rng {lo : Int} {n : Nat} {l : List D} (hl : l = (List.range n).map fun (i : Nat) => D.int (lo + (i : Int))) : Goes K b g s H (Itr lo n) (.vals l) where
  item := fun i g2 s2 H2 d st W hi => by
    have e := st.le
    subst hl
    simp only [Src.at_, List.getElem?_map, Option.map_eq_some_iff] at hi
    obtain ⟨j, hj, rfl⟩ := hi
    obtain ⟨h1, h2⟩ := List.getElem?_eq_some_iff.mp hj
    rw [List.getElem_range] at h2
    rw [List.length_range] at h1
    subst h2
    refine ⟨h1, fun x H3 y => ?_⟩
    obtain ⟨rfl, rfl⟩ := y
    exact ⟨g2, .refl, W, .int _⟩
  done := fun i g2 s2 H2 st W hi => by
    have e := st.le
    subst hl
    simp only [Src.stop, List.length_map, List.length_range] at hi
    exact hi
theorem goes_zipT {a c : Addr} {vs ws : List V} {ds es : List D} (h : g.F a = some (.tup vs)) (r : RepL K g vs ds) (h' : g.F c = some (.tup ws)) (r' : RepL K g ws es) (hn : ds.length = es.length) : Goes K b g s H (RZ.ItzT K a c) (.vals (List.zipWith (fun x y => D.tup [x, y]) ds es)) where
  item := fun i g2 s2 H2 d st W hi => by
    have e := st.le
    simp only [Src.at_, List.getElem?_zipWith] at hi
    cases hd : ds[i]? with
    | none => rw [hd] at hi; cases hi
    | some x =>
      cases he : es[i]? with
      | none => rw [hd, he] at hi; cases hi
      | some y =>
        rw [hd, he] at hi; cases hi
        obtain ⟨v, h1, h2⟩ := (r.mono e).get (i := i) hd
        obtain ⟨w, k1, k2⟩ := (r'.mono e).get (i := i) he
        have hs : SqT K H2 a vs := .of (W.hT (e.F _ _ h))
        have ks : SqT K H2 c ws := .of (W.hT (e.F _ _ h'))
        refine ⟨⟨vs, ws, v, w, hs, ks, h1, k1⟩, fun z H3 q => ?_⟩
        obtain ⟨t, x', y', rfl, ht, rfl, q1, q2⟩ := q
        have q3 := (q1 vs hs).symm.trans h1
        cases q3
        have q4 := (q2 ws ks).symm.trans k1
        cases q4
        obtain ⟨S, W'⟩ := W.new (b := b) (o := .tup [v, w]) ht
        exact ⟨_, S, W', .tup (show upd g2.F t _ t = _ from upd_same) (.cons (h2.mono S.le) (.cons (k2.mono S.le) .nil))⟩
  done := fun i g2 s2 H2 st W hi => by
    have e := st.le
    simp only [Src.stop, List.length_zipWith] at hi
    refine ⟨vs, ws, .of (W.hT (e.F _ _ h)), .of (W.hT (e.F _ _ h')), .inl ?_⟩
    rw [r.length]; omega

/-! what is left to go through -/
structure Rem (src : Src) (f : D → Sto → Option (Option D × Sto)) (R : Nat → Sto → Option (List D × Sto)) (k : Nat) : Prop where
  at_ : ∀ i s r, i ≤ k → R i s = some r → (i = k ∧ src.stop s i ∧ r = ([], s)) ∨ (i < k ∧ ∃ d, src.at_ s i = some d ∧ ∃ od s1 rest s2, f d s = some (od, s1) ∧ R (i + 1) s1 = some (rest, s2) ∧ r = (match od with | some x => x :: rest | none => rest, s2))
theorem rem_vals {f : D → Sto → Option (Option D × Sto)} {l : List D} : Rem (.vals l) f (fun i s => lcV f (l.drop i) s) l.length where
  at_ := fun i s r hi h => by
    by_cases e : i = l.length
    · subst e
      have h' : lcV f (l.drop l.length) s = some r := h
      rw [List.drop_length] at h'
      cases h'
      exact .inl ⟨rfl, Nat.le_refl _, rfl⟩
    · right
      have hl : i < l.length := by omega
      refine ⟨hl, l[i], List.getElem?_eq_getElem hl, ?_⟩
      have h' : lcV f (l.drop i) s = some r := h
      rw [List.drop_eq_getElem_cons hl] at h'
      simp only [lcV] at h'
      obtain ⟨⟨od, s1⟩, h1, h2⟩ := Option.bind_eq_some_iff.mp h'
      obtain ⟨⟨rest, s2⟩, h3, h4⟩ := Option.bind_eq_some_iff.mp h2
      cases h4
      exact ⟨od, s1, rest, s2, h1, h3, rfl⟩
theorem rem_obj {f : D → Sto → Option (Option D × Sto)} {n k : Nat} : Rem (.objl n k) f (fun i s => lcO n f (k - i) i s) k where
  at_ := fun i s r hi h => by
    have h' : lcO n f (k - i) i s = some r := h
    by_cases e : i = k
    · subst e
      rw [Nat.sub_self] at h'
      simp only [lcO] at h'
      split at h'
      · rename_i xs hx
        split at h'
        · cases h'; exact .inl ⟨rfl, ⟨xs, hx, by assumption⟩, rfl⟩
        · cases h'
      · cases h'
    · right
      obtain ⟨m, hm⟩ : ∃ m, k - i = m + 1 := ⟨k - i - 1, by omega⟩
      rw [hm] at h'
      simp only [lcO] at h'
      split at h'
      · rename_i xs hx
        split at h'
        · rename_i d hd
          obtain ⟨⟨od, s1⟩, h1, h2⟩ := Option.bind_eq_some_iff.mp h'
          obtain ⟨⟨rest, s2⟩, h3, h4⟩ := Option.bind_eq_some_iff.mp h2
          cases h4
          refine ⟨by omega, d, ?_, od, s1, rest, s2, h1, ?_, rfl⟩
          · simp only [Src.at_, hx]; exact hd
          · have : k - (i + 1) = m := by omega
            rw [this]; exact h3
        · cases h'
      · cases h'

/-! ### targets -/
mutual
theorem ok_G : ∀ (t : G) (d : D) (env e1 : En) (σ : L2.St) (v : V) (H : Hp) (g : Gh) (s : Sto), asgG t d env = some e1 → Wf K g s H → EnR K g env σ → Rep K g v d → ∀ Q : L2.St → Hp → Prop, (∀ σ', EnR K g e1 σ' → Q σ' H) → rdG K t v σ H Q
  | .name i, d, env, e1, σ, v, H, g, s, h, W, E, r, Q, q => by
    simp only [asgG, Option.some.injEq] at h
    subst h
    exact q _ (E.set r i)
  | .tup gs, d, env, e1, σ, v, H, g, s, h, W, E, r, Q, q => by
    cases r with
    | tup ha ra =>
      simp only [asgG] at h
      have hn := gs_len h
      exact ⟨_, _, rfl, .of (W.hT ha), by rw [ra.length]; exact hn, ok_Gs gs _ env e1 σ _ H g s h W E ra Q q⟩
    | _ => simp [asgG] at h
theorem ok_Gs : ∀ (t : Gs) (ds : List D) (env e1 : En) (σ : L2.St) (vs : List V) (H : Hp) (g : Gh) (s : Sto), asgGs t ds env = some e1 → Wf K g s H → EnR K g env σ → RepL K g vs ds → ∀ Q : L2.St → Hp → Prop, (∀ σ', EnR K g e1 σ' → Q σ' H) → rdGs K t vs σ H Q
  | .nil, [], env, e1, σ, vs, H, g, s, h, W, E, r, Q, q => by
    cases r
    simp only [asgGs, Option.some.injEq] at h
    subst h
    exact ⟨rfl, q _ E⟩
  | .nil, _ :: _, env, e1, σ, vs, H, g, s, h, W, E, r, Q, q => by simp [asgGs] at h
  | .cons t ts, [], env, e1, σ, vs, H, g, s, h, W, E, r, Q, q => by simp [asgGs] at h
  | .cons t ts, d :: ds, env, e1, σ, vs, H, g, s, h, W, E, r, Q, q => by
    cases r with
    | cons r1 r2 =>
      simp only [asgGs] at h
      obtain ⟨e2, h1, h2⟩ := Option.bind_eq_some_iff.mp h
      exact ⟨_, _, rfl, ok_G t d env e2 σ _ H g s h1 W E r1 _ fun σ' E' => ok_Gs ts ds e2 e1 σ' _ H g s h2 W E' r2 Q q⟩
theorem gs_len : ∀ {t : Gs} {ds : List D} {env e1 : En}, asgGs t ds env = some e1 → ds.length = t.n
  | .nil, [], _, _, _ => rfl
  | .nil, _ :: _, _, _, h => by simp [asgGs] at h
  | .cons _ _, [], _, _, h => by simp [asgGs] at h
  | .cons t ts, d :: ds, env, e1, h => by
    simp only [asgGs] at h
    obtain ⟨e2, h1, h2⟩ := Option.bind_eq_some_iff.mp h
    exact congrArg (· + 1) (gs_len h2)
end
/-- a comprehension's target forgets nothing of the frame's -/
theorem wipe_set {σ : L2.St} {i : Nat} {x : Option V} : ∀ {vs : List Nat}, i ∈ vs → wipe (σ.set i x) vs = wipe σ vs
  | [], h => by cases h
  | v :: vs, h => by
    unfold wipe
    by_cases e : v = i
    · subst e
      by_cases hi : v ∈ vs
      · rw [wipe_set hi]
      · rw [wipe_comm hi, List.set_set]
    · rw [wipe_set (by rcases List.mem_cons.mp h with h | h; exact absurd h.symm e; exact h)]
where
  wipe_comm {σ : L2.St} {i : Nat} {x : Option V} : ∀ {vs : List Nat}, i ∉ vs → wipe (σ.set i x) vs = (wipe σ vs).set i x
    | [], _ => rfl
    | v :: vs, h => by
      unfold wipe
      simp only [List.mem_cons, not_or] at h
      rw [wipe_comm h.2, List.set_comm _ _ h.1]
theorem wipe_sub {σ : L2.St} {vs : List Nat} : ∀ {us : List Nat}, (∀ i ∈ us, i ∈ vs) → wipe (wipe σ us) vs = wipe σ vs
  | [], _ => rfl
  | v :: us, h => by
    show wipe ((wipe σ us).set v none) vs = wipe σ vs
    rw [wipe_set (h v (List.mem_cons_self ..)), wipe_sub fun i hi => h i (List.mem_cons_of_mem _ hi)]
theorem wipe_idem {σ : L2.St} {vs : List Nat} : wipe (wipe σ vs) vs = wipe σ vs := wipe_sub fun _ h => h
mutual
theorem wipe_G : ∀ (t : G) (v : V) (σ : L2.St) (H : Hp) (own : List Nat) (Q : L2.St → Hp → Prop), (∀ i ∈ t.slots, i ∈ own) → rdG K t v σ H Q → rdG K t v σ H fun σ2 H2 => wipe σ2 own = wipe σ own ∧ Q σ2 H2
  | .name i, v, σ, H, own, Q, h, q => ⟨wipe_set (h i (by simp [G.slots])), q⟩
  | .tup gs, v, σ, H, own, Q, h, q => by
    obtain ⟨a, xs, rfl, h1, h2, q⟩ := q
    exact ⟨a, xs, rfl, h1, h2, wipe_Gs gs xs σ H own Q (by simpa [G.slots] using h) q⟩
theorem wipe_Gs : ∀ (t : Gs) (vs : List V) (σ : L2.St) (H : Hp) (own : List Nat) (Q : L2.St → Hp → Prop), (∀ i ∈ t.slots, i ∈ own) → rdGs K t vs σ H Q → rdGs K t vs σ H fun σ2 H2 => wipe σ2 own = wipe σ own ∧ Q σ2 H2
  | .nil, vs, σ, H, own, Q, h, q => ⟨q.1, rfl, q.2⟩
  | .cons t ts, vs, σ, H, own, Q, h, q => by
    obtain ⟨v, r, rfl, q⟩ := q
    simp only [Gs.slots, List.mem_append] at h
    refine ⟨v, r, rfl, mono_G t v σ H _ _ (wipe_G t v σ H own _ (fun i hi => h i (.inl hi)) q) fun σ2 H2 ⟨e, q2⟩ => ?_⟩
    exact mono_Gs ts r σ2 H2 _ _ (wipe_Gs ts r σ2 H2 own Q (fun i hi => h i (.inr hi)) q2) fun σ3 H3 ⟨e3, q3⟩ => ⟨e3.trans e, q3⟩
theorem mono_G : ∀ (t : G) (v : V) (σ : L2.St) (H : Hp) (Q Q' : L2.St → Hp → Prop), rdG K t v σ H Q → (∀ σ2 H2, Q σ2 H2 → Q' σ2 H2) → rdG K t v σ H Q'
  | .name i, v, σ, H, Q, Q', q, h => h _ _ q
  | .tup gs, v, σ, H, Q, Q', q, h => by
    obtain ⟨a, xs, rfl, h1, h2, q⟩ := q
    exact ⟨a, xs, rfl, h1, h2, mono_Gs gs xs σ H Q Q' q h⟩
theorem mono_Gs : ∀ (t : Gs) (vs : List V) (σ : L2.St) (H : Hp) (Q Q' : L2.St → Hp → Prop), rdGs K t vs σ H Q → (∀ σ2 H2, Q σ2 H2 → Q' σ2 H2) → rdGs K t vs σ H Q'
  | .nil, vs, σ, H, Q, Q', q, h => ⟨q.1, h _ _ q.2⟩
  | .cons t ts, vs, σ, H, Q, Q', q, h => by
    obtain ⟨v, r, rfl, q⟩ := q
    exact ⟨v, r, rfl, mono_G t v σ H _ _ q fun σ2 H2 q2 => mono_Gs ts r σ2 H2 Q Q' q2 h⟩
end
end
end Fw

/-! Fw, part F: what the evaluator says holds of the readings: all expressions. -/
namespace Fw
open PySem PySem.Spec PyProof.Rows L2

section
variable {K : PySem.W.Frag} {b : Nat} {env : En} {ta tb td : TE} {fa fb fd : Sto → Option (D × Sto)}

theorem ok_con {v : V} {d : D} (h : ∀ g, Rep K g v d) : OkE K b env (tC v) (fun s => some (d, s)) := fun g s σ H d' s' e W E Q q => by
  cases e; exact q.now W (h g)
theorem ok_two {r : R2} {f : Sto → D → D → Option D} (ha : OkE K b env ta fa) (hb : OkE K b env tb fb) (hr : OkR K b r f) : OkE K b env (tOp r ta tb) (fun s => (fa s).bind fun p => (fb p.2).bind fun q => (f q.2 p.1 q.1).map fun d => (d, q.2)) := fun g s σ H d s' e W E Q q => by
  obtain ⟨⟨x, s1⟩, e1, e⟩ := Option.bind_eq_some_iff.mp e
  obtain ⟨⟨y, s2⟩, e2, e⟩ := Option.bind_eq_some_iff.mp e
  obtain ⟨z, e3, e⟩ := Option.map_eq_some_iff.mp e
  cases e
  exact ha g s σ H x s1 e1 W E _ fun v g1 H1 S1 W1 r1 => hb g1 s1 σ H1 y s2 e2 W1 (E.mono S1.le) _ fun u g2 H2 S2 W2 r2 =>
    hr g2 _ H2 x y _ v u e3 W2 (r1.mono S2.le) r2 Q ((q.after W S1 W1).after W1 S2 W2)
theorem ok_tupE {t : TA} {f : Sto → Option (List D × Sto)} (h : OkA K b env t f) : OkE K b env (tTup t) (fun s => (f s).bind fun p => if p.1.length ≤ ZL then some (.tup p.1, p.2) else none) := fun g s σ H d s' e W E Q q => by
  obtain ⟨⟨ds, s1⟩, e1, e⟩ := Option.bind_eq_some_iff.mp e
  simp only at e
  split at e
  · cases e
    exact h g s σ H ds _ e1 W E _ fun vs g1 H1 S1 W1 r1 => ⟨by rw [r1.length]; exact szl (by assumption), fun p hp => (q.after W S1 W1).tup W1 r1 hp⟩
  · cases e
theorem ok_lstE {t : TA} {f : Sto → Option (List D × Sto)} (h : OkA K b env t f) : OkE K b env (tLst t) (fun s => (f s).bind fun p => if p.1.length ≤ ZL then some (.lst p.1, p.2) else none) := fun g s σ H d s' e W E Q q => by
  obtain ⟨⟨ds, s1⟩, e1, e⟩ := Option.bind_eq_some_iff.mp e
  simp only at e
  split at e
  · cases e
    exact h g s σ H ds _ e1 W E _ fun vs g1 H1 S1 W1 r1 => ⟨by rw [r1.length]; exact szl (by assumption), fun p hp => (q.after W S1 W1).lst W1 r1 hp⟩
  · cases e
theorem ok_newLE {t : TA} {f : Sto → Option (List D × Sto)} (h : OkA K b env t f) : OkE K b env (tLst t) (fun s => (f s).bind fun p => if p.1.length ≤ ZL then some (.obj p.2.length, p.2 ++ [some (.lst p.1)]) else none) := fun g s σ H d s' e W E Q q => by
  obtain ⟨⟨ds, s1⟩, e1, e⟩ := Option.bind_eq_some_iff.mp e
  simp only at e
  split at e
  · cases e
    exact h g s σ H ds _ e1 W E _ fun vs g1 H1 S1 W1 r1 => ⟨by rw [r1.length]; exact szl (by assumption), fun p hp => (q.after W S1 W1).newL W1 r1 hp⟩
  · cases e
theorem ok_chn {o o' : Cp} (ha : OkE K b env ta fa) (hb : OkE K b env tb fb) (hd : OkE K b env td fd) : OkE K b env (tChain (rCmp K o) (rCmp K o') ta tb td)
    (fun s => (fa s).bind fun p => (fb p.2).bind fun q => (evCmp o p.1 q.1).bind fun r => if r = true then (fd q.2).bind fun u => (evCmp o' q.1 u.1).map fun r' => (.bl r', u.2) else some (.bl false, q.2)) := fun g s σ H d s' e W E Q q => by
  obtain ⟨⟨x, s1⟩, e1, e⟩ := Option.bind_eq_some_iff.mp e
  obtain ⟨⟨y, s2⟩, e2, e⟩ := Option.bind_eq_some_iff.mp e
  obtain ⟨r, e3, e⟩ := Option.bind_eq_some_iff.mp e
  have e3 : evCmp o x y = some r := e3
  refine ha g s σ H x s1 e1 W E _ fun v g1 H1 S1 W1 r1 => hb g1 s1 σ H1 y s2 e2 W1 (E.mono S1.le) _ fun u g2 H2 S2 W2 r2 =>
    ok_cmp (K := K) (b := b) o g2 s2 H2 x y (.bl r) v u (congrArg (Option.map D.bl) e3) W2 (r1.mono S2.le) r2 _ fun z g3 H3 S3 W3 r3 => ?_
  cases r3
  refine ⟨r, rfl, ?_⟩
  have q3 := ((q.after W S1 W1).after W1 S2 W2).after W2 S3 W3
  cases r with
  | true =>
    rw [if_pos rfl] at e ⊢
    obtain ⟨⟨z, s4⟩, e4, e⟩ := Option.bind_eq_some_iff.mp e
    obtain ⟨r', e5, e⟩ := Option.map_eq_some_iff.mp e
    have e5 : evCmp o' y z = some r' := e5
    cases e
    exact hd g3 s2 σ H3 z _ e4 W3 (((E.mono S1.le).mono S2.le).mono S3.le) _ fun w g4 H4 S4 W4 r4 =>
      ok_cmp (K := K) (b := b) o' g4 _ H4 y z (.bl r') u w (congrArg (Option.map D.bl) e5) W4 ((r2.mono S3.le).mono S4.le) r4 Q (q3.after W3 S4 W4)
  | false =>
    rw [if_neg Bool.false_ne_true] at e ⊢
    cases e
    exact q3.now W3 (.bl false)
theorem ok_notE (ha : OkE K b env ta fa) : OkE K b env (tNotV ta) (fun s => (fa s).bind fun p => match p.1 with
    | .bl b => some (.bl (!b), p.2)
    | _ => none) := fun g s σ H d s' e W E Q q => by
  obtain ⟨⟨x, s1⟩, e1, e⟩ := Option.bind_eq_some_iff.mp e
  refine ha g s σ H x s1 e1 W E _ fun v g1 H1 S1 W1 r1 => ?_
  cases r1 <;> simp only [reduceCtorEq] at e
  cases e
  exact ⟨_, rfl, (q.after W S1 W1).now W1 (.bl _)⟩
theorem ok_andE (ha : OkE K b env ta fa) (hb : OkE K b env tb fb) : OkE K b env (tAndV ta tb) (fun s => (fa s).bind fun p => match p.1 with
    | .bl true => fb p.2
    | .bl false => some (.bl false, p.2)
    | _ => none) := fun g s σ H d s' e W E Q q => by
  obtain ⟨⟨x, s1⟩, e1, e⟩ := Option.bind_eq_some_iff.mp e
  refine ha g s σ H x s1 e1 W E _ fun v g1 H1 S1 W1 r1 => ?_
  cases r1 with
  | bl c =>
    refine ⟨c, rfl, ?_⟩
    cases c with
    | true =>
      rw [if_pos rfl]
      exact hb g1 s1 σ H1 d s' e W1 (E.mono S1.le) Q (q.after W S1 W1)
    | false =>
      rw [if_neg Bool.false_ne_true]
      cases e
      exact (q.after W S1 W1).now W1 (.bl _)
  | _ => simp at e
theorem ok_orE (ha : OkE K b env ta fa) (hb : OkE K b env tb fb) : OkE K b env (tOrV ta tb) (fun s => (fa s).bind fun p => match p.1 with
    | .bl true => some (.bl true, p.2)
    | .bl false => fb p.2
    | _ => none) := fun g s σ H d s' e W E Q q => by
  obtain ⟨⟨x, s1⟩, e1, e⟩ := Option.bind_eq_some_iff.mp e
  refine ha g s σ H x s1 e1 W E _ fun v g1 H1 S1 W1 r1 => ?_
  cases r1 with
  | bl c =>
    refine ⟨c, rfl, ?_⟩
    cases c with
    | false =>
      rw [if_neg Bool.false_ne_true]
      exact hb g1 s1 σ H1 d s' e W1 (E.mono S1.le) Q (q.after W S1 W1)
    | true =>
      rw [if_pos rfl]
      cases e
      exact (q.after W S1 W1).now W1 (.bl _)
  | _ => simp at e
theorem ok_ife {t : TT} {ft : Sto → Option (Bool × Sto)} (ht : OkT K b env t ft) (ha : OkE K b env ta fa) (hb : OkE K b env tb fb) : OkE K b env (tIf t ta tb) (fun s => (ft s).bind fun p => match p.1 with
    | true => fa p.2
    | false => fb p.2) := fun g s σ H d s' e W E Q q => by
  obtain ⟨⟨x, s1⟩, e1, e⟩ := Option.bind_eq_some_iff.mp e
  refine ht g s σ H x s1 e1 W E _ fun g1 H1 S1 W1 => ?_
  cases x with
  | true =>
    rw [if_pos rfl]
    exact ha g1 s1 σ H1 d s' e W1 (E.mono S1.le) Q (q.after W S1 W1)
  | false =>
    rw [if_neg Bool.false_ne_true]
    exact hb g1 s1 σ H1 d s' e W1 (E.mono S1.le) Q (q.after W S1 W1)
theorem ok_dget (ha : OkE K b env ta fa) (hb : OkE K b env tb fb) : OkE K b env (tDGet ta tb) (fun s => (fa s).bind fun p => (fb p.2).bind fun q => match dLook q.2 p.1 q.1 with
    | some (some d) => some (d, q.2)
    | _ => none) := fun g s σ H d s' e W E Q q => by
  obtain ⟨⟨x, s1⟩, e1, e⟩ := Option.bind_eq_some_iff.mp e
  obtain ⟨⟨y, s2⟩, e2, e⟩ := Option.bind_eq_some_iff.mp e
  refine ha g s σ H x s1 e1 W E _ fun v g1 H1 S1 W1 r1 => hb g1 s1 σ H1 y s2 e2 W1 (E.mono S1.le) _ fun u g2 H2 S2 W2 r2 => ?_
  simp only at e
  split at e
  · rename_i z hz
    cases e
    obtain ⟨a, w, rfl, h1, h2, _⟩ := ok_look hz W2 (r1.mono S2.le) r2
    obtain ⟨z', rfl, rz⟩ := h2 _ rfl
    exact ⟨a, z', rfl, h1, ((q.after W S1 W1).after W1 S2 W2).now W2 rz⟩
  · cases e
theorem ok_dnin (ha : OkE K b env ta fa) (hb : OkE K b env tb fb) : OkE K b env (tDNotIn ta tb) (fun s => (fa s).bind fun p => (fb p.2).bind fun q => (dLook q.2 q.1 p.1).map fun o => (.bl (!o.isSome), q.2)) := fun g s σ H d s' e W E Q q => by
  obtain ⟨⟨x, s1⟩, e1, e⟩ := Option.bind_eq_some_iff.mp e
  obtain ⟨⟨y, s2⟩, e2, e⟩ := Option.bind_eq_some_iff.mp e
  refine ha g s σ H x s1 e1 W E _ fun v g1 H1 S1 W1 r1 => hb g1 s1 σ H1 y s2 e2 W1 (E.mono S1.le) _ fun u g2 H2 S2 W2 r2 => ?_
  obtain ⟨o, hz, e⟩ := Option.map_eq_some_iff.mp e
  cases e
  obtain ⟨a, w, rfl, h1, h2, h3⟩ := ok_look hz W2 r2 (r1.mono S2.le)
  refine ⟨a, w, rfl, h1, ?_⟩
  have ew : w.isSome = o.isSome := by
    cases o with
    | none => rw [h3 rfl]; rfl
    | some z => obtain ⟨z', rfl, _⟩ := h2 z rfl; rfl
  rw [ew]
  exact ((q.after W S1 W1).after W1 S2 W2).now W2 (.bl _)
theorem ok_din (ha : OkE K b env ta fa) (hb : OkE K b env tb fb) : OkE K b env (tDIn ta tb) (fun s => (fa s).bind fun p => (fb p.2).bind fun q => (dLook q.2 q.1 p.1).map fun o => (.bl o.isSome, q.2)) := fun g s σ H d s' e W E Q q => by
  obtain ⟨⟨x, s1⟩, e1, e⟩ := Option.bind_eq_some_iff.mp e
  obtain ⟨⟨y, s2⟩, e2, e⟩ := Option.bind_eq_some_iff.mp e
  refine ha g s σ H x s1 e1 W E _ fun v g1 H1 S1 W1 r1 => hb g1 s1 σ H1 y s2 e2 W1 (E.mono S1.le) _ fun u g2 H2 S2 W2 r2 => ?_
  obtain ⟨o, hz, e⟩ := Option.map_eq_some_iff.mp e
  cases e
  obtain ⟨a, w, rfl, h1, h2, h3⟩ := ok_look hz W2 r2 (r1.mono S2.le)
  refine ⟨a, w, rfl, h1, ?_⟩
  have ew : w.isSome = o.isSome := by
    cases o with
    | none => rw [h3 rfl]; rfl
    | some z => obtain ⟨z', rfl, _⟩ := h2 z rfl; rfl
  rw [ew]
  exact ((q.after W S1 W1).after W1 S2 W2).now W2 (.bl _)
theorem ok_slcE {tl th : TO} {fl fh : Sto → Option (Option Int × Sto)} (ha : OkE K b env ta fa) (hl : OkO K b env tl fl) (hh : OkO K b env th fh) : OkE K b env (tSl (rSlAll K) ta tl th)
    (fun s => (fa s).bind fun p => (fl p.2).bind fun q => (fh q.2).bind fun r => (slcD p.1 q.1 r.1).map fun d => (d, r.2)) := fun g s σ H d s' e W E Q q => by
  obtain ⟨⟨x, s1⟩, e1, e⟩ := Option.bind_eq_some_iff.mp e
  obtain ⟨⟨lo, s2⟩, e2, e⟩ := Option.bind_eq_some_iff.mp e
  obtain ⟨⟨hi, s3⟩, e3, e⟩ := Option.bind_eq_some_iff.mp e
  obtain ⟨z, hz, e⟩ := Option.map_eq_some_iff.mp e
  cases e
  exact ha g s σ H x s1 e1 W E _ fun v g1 H1 S1 W1 r1 => hl g1 s1 σ H1 lo s2 e2 W1 (E.mono S1.le) _ fun g2 H2 S2 W2 => hh g2 s2 σ H2 hi _ e3 W2 ((E.mono S1.le).mono S2.le) _ fun g3 H3 S3 W3 =>
    ok_slc hz W3 ((r1.mono S2.le).mono S3.le) (((q.after W S1 W1).after W1 S2 W2).after W2 S3 W3)

/-- a call -/
theorem run_sp {C : Cc} {n i : Nat} {p : Bool} {ds : List D} {vs : List V} {g : Gh} {s s' : Sto} {H : Hp} {d : D} (hA : ∀ ds s r, C.fn i ds s = some r → ds.length = n) (h : C.run p i ds s = some (d, s')) (W : Wf K g s H) (r : RepL K g vs ds) {Q : VK} (q : Post K b g s H d s' Q) : SpF K n (C.fn i) vs H Q E0 := by
  cases p with
  | true =>
    simp only [Cc.run] at h
    split at h
    · rename_i hc
      split at h
      · rename_i d1 s1 hd
        split at h
        · rename_i hcl
          cases h
          refine ⟨by rw [r.length]; exact hA _ _ _ hd, ⟨g.F, []⟩, ds, [], _, s1, RepL.free (r := g.r) hc r, W.noObj, hd, fun v g2 H2 S2 W2 r2 => ?_⟩
          obtain ⟨S3, W3⟩ := W.pure (b := b) S2 W2
          exact q v _ H2 S3 W3 (Rep.free (r := g2.r) hcl r2)
        · cases h
      · cases h
    · cases h
  | false =>
    simp only [Cc.run] at h
    refine ⟨by rw [r.length]; exact hA _ _ _ h, g, ds, s, d, s', r, W, h, fun v g2 H2 S2 W2 r2 => q v g2 H2 ⟨S2.le, S2.keep, S2.dom, S2.nt, fun a e f => ?_, S2.own, S2.lm, S2.grow⟩ W2 r2⟩
    rcases S2.fresh a e f with z | ⟨n, hn, z⟩
    · exact .inl z
    · exact absurd (W.r_lt z) (by omega)
theorem perm_rep {g : Gh} {n : Nat} {perm : List Nat} {vs zs : List V} {ds es : List D} (r : RepL K g vs ds) (r' : RepL K g zs es) : RepL K g (permL .non n perm vs zs) (permL .non n perm ds es) := by
  unfold permL
  rw [r.length, r'.length]
  by_cases hc : ds.length = n ∧ n + es.length = perm.length
  case neg => rw [if_neg hc, if_neg hc]; exact .nil
  case pos =>
  rw [if_pos hc, if_pos hc]
  clear hc
  induction perm with
  | nil => exact .nil
  | cons j t ih =>
    refine .cons ?_ ih
    have ra := r.append r'
    cases e : (ds ++ es)[j]? with
    | none =>
      have e2 : (vs ++ zs)[j]? = none := by
        rw [List.getElem?_eq_none_iff] at e ⊢
        rw [ra.length]; exact e
      show Rep K g ((vs ++ zs).getD j .non) ((ds ++ es).getD j .non)
      rw [List.getD_eq_getElem?_getD, List.getD_eq_getElem?_getD, e, e2]; exact .non
    | some d =>
      obtain ⟨v, h1, h2⟩ := ra.get e
      show Rep K g ((vs ++ zs).getD j .non) ((ds ++ es).getD j .non)
      rw [List.getD_eq_getElem?_getD, List.getD_eq_getElem?_getD, e, h1]; exact h2

theorem ok_b1E {f : B1} (ha : OkE K b env ta fa) : OkE K b env (tCB (rB1 K f) (tCons ta tNil)) (fun s => (fa s).bind fun p => (evB1 p.2 f p.1).map fun d => (d, p.2)) := fun g s σ H d s' e W E Q q => by
  obtain ⟨⟨x, s1⟩, e1, e⟩ := Option.bind_eq_some_iff.mp e
  obtain ⟨z, hz, e⟩ := Option.map_eq_some_iff.mp e
  cases e
  exact ha g s σ H x _ e1 W E _ fun v g1 H1 S1 W1 r1 => ok_b1 hz W1 r1 (q.after W S1 W1)
theorem ok_newLst (ha : OkE K b env ta fa) : OkE K b env (tCB (rB1 K .lst) (tCons ta tNil)) (fun s => (fa s).bind fun p => (listD p.2 p.1).map fun ds => (.obj p.2.length, p.2 ++ [some (.lst ds)])) := fun g s σ H d s' e W E Q q => by
  obtain ⟨⟨x, s1⟩, e1, e⟩ := Option.bind_eq_some_iff.mp e
  obtain ⟨ds, hz, e⟩ := Option.map_eq_some_iff.mp e
  cases e
  refine ha g s σ H x _ e1 W E _ fun v g1 H1 S1 W1 r1 => ?_
  obtain ⟨a, vs, rfl, r, c⟩ := ok_seq hz W1 r1
  exact ⟨a, vs, rfl, c.imp id (·.1), fun l hl => (q.after W S1 W1).newL W1 r hl⟩
theorem ok_tupRg (ha : OkE K b env ta fa) : OkE K b env (tTupRg (tRg1 ta)) (fun s => (fa s).bind fun p => match p.1 with
    | .int n => if 0 ≤ n ∧ n ≤ ZL then some (.tup (rgD n), p.2) else none
    | _ => none) := fun g s σ H d s' e W E Q q => by
  obtain ⟨⟨x, s1⟩, e1, e⟩ := Option.bind_eq_some_iff.mp e
  refine ha g s σ H x _ e1 W E _ fun v g1 H1 S1 W1 r1 => ?_
  cases r1 with
  | int n =>
    simp only at e
    split at e
    · rename_i hn
      cases e
      have hZ : (ZL : Nat) = 1000000 := rfl
      refine ⟨n, rfl, ⟨by omega, by omega, by omega, by have := hn.2; omega, by have := hn.2; omega⟩, fun p hp => (q.after W S1 W1).tup W1 ?_ hp⟩
      unfold rgV rgD
      rw [Int.sub_zero]
      have : ∀ l : List Nat, RepL K g1 (l.map fun (i : Nat) => V.int (0 + (i : Int))) (l.map fun (i : Nat) => D.int (i : Int)) := fun l => by
        induction l with
        | nil => exact .nil
        | cons i t ih => rw [List.map_cons, List.map_cons, Int.zero_add]; exact .cons (.int _) ih
      exact this _
    · cases e
  | _ => simp at e
theorem ok_max2 (ha : OkE K b env ta fa) (hb : OkE K b env tb fb) : OkE K b env (tCB (fun xs H Q => ∃ i j, xs = [.int i, .int j] ∧ Q (.int (if j > i then j else i)) H) (tCons ta (tCons tb tNil))) (fun s => (fa s).bind fun p => (fb p.2).bind fun q => match p.1, q.1 with
    | .int i, .int j => some (.int (if j > i then j else i), q.2)
    | _, _ => none) := fun g s σ H d s' e W E Q q => by
  obtain ⟨⟨x, s1⟩, e1, e⟩ := Option.bind_eq_some_iff.mp e
  obtain ⟨⟨y, s2⟩, e2, e⟩ := Option.bind_eq_some_iff.mp e
  refine ha g s σ H x s1 e1 W E _ fun v g1 H1 S1 W1 r1 => hb g1 s1 σ H1 y s2 e2 W1 (E.mono S1.le) _ fun u g2 H2 S2 W2 r2 => ?_
  cases r1 with
  | int i =>
    cases r2 with
    | int j => cases e; exact ⟨i, j, rfl, ((q.after W S1 W1).after W1 S2 W2).now W2 (.int _)⟩
    | _ => simp at e
  | _ => simp at e
theorem ok_isiE {c : Ty} (ha : OkE K b env ta fa) : OkE K b env (tCB (rIsi K) (tCons ta (tCons (tC (.ty (tyN c))) tNil))) (fun s => (fa s).bind fun p => (isID p.2 p.1 c).map fun b => (.bl b, p.2)) := fun g s σ H d s' e W E Q q => by
  obtain ⟨⟨x, s1⟩, e1, e⟩ := Option.bind_eq_some_iff.mp e
  obtain ⟨z, hz, e⟩ := Option.map_eq_some_iff.mp e
  cases e
  exact ha g s σ H x _ e1 W E _ fun v g1 H1 S1 W1 r1 => ok_isi hz W1 r1 ((q.after W S1 W1).now W1 (.bl _))
theorem ok_join (ha : OkE K b env ta fa) (hb : OkE K b env tb fb) : OkE K b env (tM1 (fun x xs H Q => ∃ a p, ∃ ys : List Str, x = .str a ∧ xs = [.ref p] ∧ (SqL K H p (ys.map V.str) ∨ SqT K H p (ys.map V.str)) ∧ (ys.map (·.length)).sum + ys.length * a.length ≤ 16777216 ∧ Q (.str (Txt.join a ys)) H) ta tb)
    (fun s => (fa s).bind fun p => (fb p.2).bind fun q => match p.1, q.1 with
    | .str x, .lst ds => (strsD ds).bind fun ys => if (ys.map (·.length)).sum + ys.length * x.length ≤ ZL then some (.str (Txt.join x ys), q.2) else none
    | _, _ => none) := fun g s σ H d s' e W E Q q => by
  obtain ⟨⟨x, s1⟩, e1, e⟩ := Option.bind_eq_some_iff.mp e
  obtain ⟨⟨y, s2⟩, e2, e⟩ := Option.bind_eq_some_iff.mp e
  refine ha g s σ H x s1 e1 W E _ fun v g1 H1 S1 W1 r1 => ?_
  cases r1 with
  | str z =>
    refine ⟨⟨z, rfl⟩, hb g1 s1 σ H1 y s2 e2 W1 (E.mono S1.le) _ fun u g2 H2 S2 W2 r2 => ?_⟩
    cases r2 with
    | lst hl rl =>
      simp only at e
      obtain ⟨ys, hy, e⟩ := Option.bind_eq_some_iff.mp e
      split at e
      · rename_i hz
        cases e
        have := rl.strs hy
        subst this
        have hZ : (ZL : Nat) = 1000000 := rfl
        exact ⟨z, _, ys, rfl, rfl, .inl (.of (W2.hL hl)), by omega, ((q.after W S1 W1).after W1 S2 W2).now W2 (.str _)⟩
      · cases e
    | _ => simp at e
  | _ => simp at e
theorem ok_pop (ha : OkE K b env ta fa) : OkE K b env (tBM0 K "list" rPop ta) (fun s => (fa s).bind fun p => match p.1 with
    | .obj n => match getO p.2 n with
      | some (.lst xs) => match xs[xs.length - 1]? with
        | some d => some (d, setO p.2 n (some (.lst xs.dropLast)))
        | none => none
      | _ => none
    | _ => none) := fun g s σ H d s' e W E Q q => by
  obtain ⟨⟨x, s1⟩, e1, e⟩ := Option.bind_eq_some_iff.mp e
  refine ha g s σ H x s1 e1 W E _ fun v g1 H1 S1 W1 r1 => ?_
  simp only at e
  split at e
  · split at e
    · rename_i xs hx
      split at e
      · rename_i y hy
        cases e
        obtain ⟨a, vs, h1, h2, h3⟩ := W1.objL hx
        have := r1.at_ h1
        subst this
        obtain ⟨w, k1, k2⟩ := h3.get hy
        refine ⟨.inl ⟨rfl, _, .of h2⟩, a, vs, w, rfl, rfl, h2, by rw [h3.length]; exact k1, ?_⟩
        exact (q.after W S1 W1).write W1 hx rfl h1 (o := .lst vs.dropLast) (q := .lst xs.dropLast) h3.dropLast k2
      · cases e
    · cases e
  · cases e
theorem ok_popAt (ha : OkE K b env ta fa) (hb : OkE K b env tb fb) : OkE K b env (tBM K "list" rPopAt ta (tCons tb tNil)) (fun s => (fa s).bind fun p => (fb p.2).bind fun q => match p.1, q.1 with
    | .obj n, .int i => match getO q.2 n with
      | some (.lst xs) => if 0 ≤ i ∧ i < 2 ^ 63 then match xs[i.toNat]? with
          | some d => match getO p.2 n with
            | some (.lst _) => some (d, setO q.2 n (some (.lst (xs.eraseIdx i.toNat))))
            | _ => none
          | none => none
        else none
      | _ => none
    | _, _ => none) := fun g s σ H d s' e W E Q q => by
  obtain ⟨⟨x, s1⟩, e1, e⟩ := Option.bind_eq_some_iff.mp e
  obtain ⟨⟨y, s2⟩, e2, e⟩ := Option.bind_eq_some_iff.mp e
  refine ha g s σ H x s1 e1 W E _ fun v g1 H1 S1 W1 r1 => ?_
  simp only at e
  split at e
  · split at e
    · rename_i xs hx
      split at e
      · rename_i hi
        split at e
        · rename_i z hz
          split at e
          · rename_i x0 hx0
            cases e
            obtain ⟨a0, vs0, h01, h02, h03⟩ := W1.objL hx0
            have := r1.at_ h01
            subst this
            refine ⟨.inl ⟨rfl, _, .of h02⟩, hb g1 s1 σ H1 _ _ e2 W1 (E.mono S1.le) _ fun u g2 H2 S2 W2 r2 => ?_⟩
            obtain ⟨a, vs, h1, h2, h3⟩ := W2.objL hx
            rw [S2.le.r _ _ h01] at h1; cases h1
            cases r2
            obtain ⟨w, k1, k2⟩ := h3.get hz
            obtain ⟨hl, _⟩ := List.getElem?_eq_some_iff.mp hz
            refine ⟨_, vs, _, _, w, rfl, rfl, h2, by omega, hi.2, ?_, k1, ?_⟩
            · rw [h3.length]
              exact PySem.StrLaws.seqIndex_nonneg hi.1 (by omega)
            · exact ((q.after W S1 W1).after W1 S2 W2).write W2 hx rfl (S2.le.r _ _ h01) (o := .lst (vs.eraseIdx _)) (q := .lst (xs.eraseIdx _)) (h3.eraseIdx _) k2
          · cases e
        · cases e
      · cases e
    · cases e
  · cases e
theorem ok_app (ha : OkE K b env ta fa) (hb : OkE K b env tb fb) : OkE K b env (tBM K "list" rAppend ta (tCons tb tNil)) (fun s => (fa s).bind fun p => (fb p.2).bind fun q => match p.1 with
    | .obj n => match getO p.2 n, getO q.2 n with
      | some (.lst _), some (.lst xs) => if xs.length < ZL then some (.non, setO q.2 n (some (.lst (xs ++ [q.1])))) else none
      | _, _ => none
    | _ => none) := fun g s σ H d s' e W E Q q => by
  obtain ⟨⟨x, s1⟩, e1, e⟩ := Option.bind_eq_some_iff.mp e
  obtain ⟨⟨y, s2⟩, e2, e⟩ := Option.bind_eq_some_iff.mp e
  refine ha g s σ H x s1 e1 W E _ fun v g1 H1 S1 W1 r1 => ?_
  simp only at e
  split at e
  · split at e
    · rename_i x0 xs hx0 hx
      split at e
      · cases e
        obtain ⟨a0, vs0, h01, h02, h03⟩ := W1.objL hx0
        have := r1.at_ h01
        subst this
        refine ⟨.inl ⟨rfl, _, .of h02⟩, hb g1 s1 σ H1 _ _ e2 W1 (E.mono S1.le) _ fun u g2 H2 S2 W2 r2 => ?_⟩
        obtain ⟨a, vs, h1, h2, h3⟩ := W2.objL hx
        rw [S2.le.r _ _ h01] at h1; cases h1
        refine ⟨_, vs, u, rfl, rfl, h2, by rw [h3.length]; exact szl' (by assumption), ?_⟩
        exact ((q.after W S1 W1).after W1 S2 W2).write W2 hx rfl (S2.le.r _ _ h01) (o := .lst (vs ++ [u])) (q := .lst (xs ++ [y])) (h3.append (.cons r2 .nil)) .non
      · cases e
    · cases e
  · cases e
theorem ok_ext (ha : OkE K b env ta fa) (hb : OkE K b env tb fb) : OkE K b env (tBM K "list" rExtend ta (tCons tb tNil)) (fun s => (fa s).bind fun p => (fb p.2).bind fun q => match p.1, q.1 with
    | .obj n, .lst ys => match getO p.2 n, getO q.2 n with
      | some (.lst _), some (.lst xs) => if xs.length + ys.length ≤ ZL then some (.non, setO q.2 n (some (.lst (xs ++ ys)))) else none
      | _, _ => none
    | _, _ => none) := fun g s σ H d s' e W E Q q => by
  obtain ⟨⟨x, s1⟩, e1, e⟩ := Option.bind_eq_some_iff.mp e
  obtain ⟨⟨y, s2⟩, e2, e⟩ := Option.bind_eq_some_iff.mp e
  refine ha g s σ H x s1 e1 W E _ fun v g1 H1 S1 W1 r1 => ?_
  simp only at e
  split at e
  · split at e
    · rename_i x0 xs hx0 hx
      split at e
      · cases e
        obtain ⟨a0, vs0, h01, h02, h03⟩ := W1.objL hx0
        have := r1.at_ h01
        subst this
        refine ⟨.inl ⟨rfl, _, .of h02⟩, hb g1 s1 σ H1 _ _ e2 W1 (E.mono S1.le) _ fun u g2 H2 S2 W2 r2 => ?_⟩
        obtain ⟨a, vs, h1, h2, h3⟩ := W2.objL hx
        rw [S2.le.r _ _ h01] at h1; cases h1
        cases r2 with
        | lst hl rl =>
          refine ⟨_, _, vs, _, rfl, rfl, h2, W2.hL hl, by rw [h3.length, rl.length]; exact szl (by assumption), ?_⟩
          exact ((q.after W S1 W1).after W1 S2 W2).write W2 hx rfl (S2.le.r _ _ h01) (o := .lst (vs ++ _)) (q := .lst (xs ++ _)) (h3.append rl) .non
      · cases e
    · cases e
  · cases e
end
end Fw

/-! Fw, part G: sorted, comprehensions, and all expressions together. -/
namespace Fw
open PySem PySem.Spec PyProof.Rows L2

section
variable {K : PySem.W.Frag} {b : Nat} {env : En} {ta tb td : TE} {fa fb fd : Sto → Option (D × Sto)}

theorem keys_len : ∀ {xs : List D} {ks : List (Int × D)}, keysOf xs = some ks → ks.map (·.2) = xs ∧ ∀ (i : Nat) (d : D) (k : Int), xs[i]? = some d → (ks.map (·.1))[i]? = some k → ∃ r, d = .tup (.int k :: r)
  | [], _, h => by simp [keysOf] at h; subst h; exact ⟨rfl, fun i d k e => by simp at e⟩
  | d :: r, ks, h => by
    simp only [keysOf] at h
    split at h
    · rename_i k l
      obtain ⟨kr, h1, rfl⟩ := Option.map_eq_some_iff.mp h
      obtain ⟨h2, h3⟩ := keys_len h1
      refine ⟨by rw [List.map_cons, h2], fun i d' k' e1 e2 => ?_⟩
      cases i with
      | zero =>
        simp at e1 e2
        subst e1 e2
        exact ⟨l, rfl⟩
      | succ i => exact h3 i d' k' (by simpa using e1) (by simpa using e2)
    · cases h
theorem RepM.tri {g : Gh} : ∀ {a : List (Int × V)} {c : List (Int × D)}, RepM K g a c → ∃ T : List (Int × V × D), a = T.map (fun t => (t.1, t.2.1)) ∧ c = T.map (fun t => (t.1, t.2.2)) ∧ ∀ t ∈ T, Rep K g t.2.1 t.2.2
  | _, _, .nil => ⟨[], rfl, rfl, fun _ h => by cases h⟩
  | _, _, @RepM.cons _ _ _ k v d a c h r => by
    obtain ⟨T, rfl, rfl, q⟩ := RepM.tri r
    refine ⟨(k, v, d) :: T, rfl, rfl, fun t m => ?_⟩
    rcases List.mem_cons.mp m with rfl | m
    · exact h
    · exact q t m
theorem RepM.ofTri {g : Gh} : ∀ {T : List (Int × V × D)}, (∀ t ∈ T, Rep K g t.2.1 t.2.2) → RepM K g (T.map fun t => (t.1, t.2.1)) (T.map fun t => (t.1, t.2.2))
  | [], _ => .nil
  | t :: T, h => .cons (h t (List.mem_cons_self ..)) (RepM.ofTri fun t m => h t (List.mem_cons_of_mem _ m))
theorem sortK_rep {g : Gh} {a : List (Int × V)} {c : List (Int × D)} (r : RepM K g a c) : RepM K g (sortK a) (sortK c) := by
  obtain ⟨T, rfl, rfl, q⟩ := r.tri
  unfold sortK
  rw [← List.map_mergeSort (r := fun p q => decide (p.1 ≤ q.1)) (fun _ _ _ _ => rfl), ← List.map_mergeSort (r := fun p q => decide (p.1 ≤ q.1)) (fun _ _ _ _ => rfl)]
  exact RepM.ofTri fun t m => q t ((List.mergeSort_perm _ _).mem_iff.mp m)
theorem RepM.snd {κ : Type} {g : Gh} : ∀ {a : List (κ × V)} {c : List (κ × D)}, RepM K g a c → RepL K g (a.map (·.2)) (c.map (·.2))
  | _, _, .nil => .nil
  | _, _, .cons h r => .cons h (RepM.snd r)
theorem ok_sort (ha : OkE K b env ta fa) : OkE K b env (tSortK ta) (fun s => (fa s).bind fun p => match p.1 with
    | .obj m => match getO p.2 m with
      | some (.lst xs) => if xs.length ≤ 60 then (keysOf xs).map fun ks => (.obj p.2.length, p.2 ++ [some (.lst ((sortK ks).map (·.2)))]) else none
      | _ => none
    | _ => none) := fun g s σ H d s' e W E Q q => by
  obtain ⟨⟨x, s1⟩, e1, e⟩ := Option.bind_eq_some_iff.mp e
  refine ha g s σ H x s1 e1 W E _ fun v g1 H1 S1 W1 r1 => ?_
  simp only at e
  split at e
  · split at e
    · rename_i xs hx
      split at e
      · rename_i hc
        obtain ⟨ks, hk, e⟩ := Option.map_eq_some_iff.mp e
        cases e
        obtain ⟨a, vs, h1, h2, h3⟩ := W1.objL hx
        have := r1.at_ h1
        subst this
        obtain ⟨k1, k2⟩ := keys_len hk
        have kl : ks.length = xs.length := by rw [← k1, List.length_map]
        refine ⟨a, vs, ks.map (·.1), rfl, h2, by rw [h3.length, List.length_map, kl], by rw [h3.length]; exact hc, fun j w k hj hkj => ?_, fun p hp => ?_⟩
        · obtain ⟨y, hy, ry⟩ := h3.getV hj
          obtain ⟨l, rfl⟩ := k2 j y k hy hkj
          cases ry with
          | tup hF rl =>
            cases rl with
            | cons r0 rl =>
              cases r0
              exact ⟨_, _, rfl, W1.hT hF⟩
        · have zr : RepM K g1 ((ks.map (·.1)).zip vs) ks := by
            have h4 : RepL K g1 vs (ks.map (·.2)) := by rw [k1]; exact h3
            have := RepM.zip (ks := ks.map (·.1)) h4
            have ez : (ks.map (·.1)).zip (ks.map (·.2)) = ks := by
              have : ∀ l : List (Int × D), (l.map (·.1)).zip (l.map (·.2)) = l := fun l => by
                induction l with
                | nil => rfl
                | cons p t ih => rw [List.map_cons, List.map_cons, List.zip_cons_cons, ih]
              exact this ks
            rw [ez] at this
            exact this
          exact (q.after W S1 W1).newL W1 (sortK_rep zr).snd hp
      · cases e
    · cases e
  · cases e

/-! ### comprehensions -/
theorem ok_lc {ti : TI} {fi : Sto → Option (Src × Sto)} {t : TT} {ft : En → Sto → Option (Bool × Sto)} {te : TE} {fe : En → Sto → Option (D × Sto)} {tg : G} {own : List Nat} (hi : OkI K b env ti fi) (ht : ∀ e1, OkT K b e1 t (ft e1)) (he : ∀ e1, OkE K b e1 te (fe e1)) :
    OkE K b env (tLc ti (rdG K tg) t te own) (fun s => if (tg.slots.all fun i => own.contains i) = true then (fi s).bind fun p =>
      (srcGo (fun d s1 => (asgG tg d (wipeD env own)).bind fun e1 => (ft e1 s1).bind fun q => match q.1 with
        | true => (fe e1 q.2).map fun r => (some r.1, r.2)
        | false => some (none, q.2)) p.1 p.2).map fun q => (.lst q.1, q.2)
      else none) := fun g s σ H d s' e W E Q q => by
  simp only at e
  split at e
  · rename_i hown
    have hown' : ∀ i ∈ tg.slots, i ∈ own := fun i hi => by
      have := List.all_eq_true.mp hown i hi
      simpa using this
    obtain ⟨⟨src, s1⟩, e1, e⟩ := Option.bind_eq_some_iff.mp e
    obtain ⟨⟨ds, s2⟩, e2, e⟩ := Option.map_eq_some_iff.mp e
    cases e
    refine hi g s σ H src s1 e1 W E _ fun J g1 H1 S1 W1 goes Dl hD => ?_
    -- what is left
    let f : D → Sto → Option (Option D × Sto) := fun d s1 => (asgG tg d (wipeD env own)).bind fun e1 => (ft e1 s1).bind fun q => match q.1 with
        | true => (fe e1 q.2).map fun r => (some r.1, r.2)
        | false => some (none, q.2)
    obtain ⟨R, k, rem, hk, r0⟩ : ∃ R k, Rem src f R k ∧ k ≤ ZL ∧ R 0 s1 = some (ds, s2) := by
      cases src with
      | vals l =>
        simp only [srcGo] at e2
        split at e2
        · exact ⟨_, _, rem_vals, by assumption, e2⟩
        · cases e2
      | objl n k =>
        simp only [srcGo] at e2
        split at e2
        · exact ⟨_, _, rem_obj, by assumption, e2⟩
        · cases e2
    have E1 := E.mono S1.le
    have q1 := q.after W S1 W1
    refine ⟨fun i m H' => ∃ g' s' acc accD rest, Step b g1 s1 H1 g' s' H' ∧ Wf K g' s' H' ∧ H' Dl = some (.lst acc) ∧ g'.F Dl = none ∧ (∀ n : Nat, g'.r[n]? ≠ some Dl) ∧ RepL K g' acc accD ∧ accD.length ≤ i ∧ i ≤ k ∧ R i s' = some (rest, s2) ∧ ds = accD ++ rest ∧ m = k - i,
      ⟨k, g1, s1, [], [], ds, Step.refl.off hD, W1.off (W1.fnone hD) (fun n h => W1.at_ n _ h hD), upd_same, W1.fnone hD, fun n h => W1.at_ n _ h hD, .nil, Nat.zero_le _, Nat.zero_le _, r0, rfl, rfl⟩, ?_⟩
    rintro i m H' ⟨g', s', acc, accD, rest, S', W', hacc, hF, hr, ra, hl, hik, hR, hds, rfl⟩
    rcases rem.at_ i s' _ hik hR with ⟨rfl, hst, hend⟩ | ⟨hlt, d, hd, od, s3, rest', s4, hf, hR', hend⟩
    · left
      cases hend
      refine ⟨goes.done i g' _ H' S' W' hst, ?_⟩
      rw [List.append_nil] at hds
      subst hds
      exact q1 _ _ _ (S'.adopt hD hF) (W'.adopt hF (fun n _ => hr n) hacc) (.lst (show upd g'.F Dl _ Dl = _ from upd_same) (ra.mono (le_adopt hF)))
    · right
      obtain ⟨hgo, hyl⟩ := goes.item i g' s' H' d S' W' hd
      refine ⟨hgo, fun H2 => ∃ g' s' acc accD rest, Step b g1 s1 H1 g' s' H2 ∧ Wf K g' s' H2 ∧ H2 Dl = some (.lst acc) ∧ g'.F Dl = none ∧ (∀ n : Nat, g'.r[n]? ≠ some Dl) ∧ RepL K g' acc accD ∧ accD.length ≤ i + 1 ∧ i + 1 ≤ k ∧ R (i + 1) s' = some (rest, s2) ∧ ds = accD ++ rest, fun H2 h2 => ?_, fun x H3 y3 => ?_⟩
      · obtain ⟨g', s', acc, accD, rest, z⟩ := h2
        exact ⟨k - (i + 1), by omega, g', s', acc, accD, rest, z.1, z.2.1, z.2.2.1, z.2.2.2.1, z.2.2.2.2.1, z.2.2.2.2.2.1, z.2.2.2.2.2.2.1, z.2.2.2.2.2.2.2.1, z.2.2.2.2.2.2.2.2.1, z.2.2.2.2.2.2.2.2.2, rfl⟩
      · obtain ⟨g3, S3, W3, r3⟩ := hyl x H3 y3
        have hf' : ((asgG tg d (wipeD env own)).bind fun e1 => (ft e1 s').bind fun q => match q.1 with
          | true => (fe e1 q.2).map fun r => (some r.1, r.2)
          | false => some (none, q.2)) = some (od, s3) := hf
        obtain ⟨ee, he1, hf'⟩ := Option.bind_eq_some_iff.mp hf'
        obtain ⟨⟨tv, s5⟩, ht1, hf'⟩ := Option.bind_eq_some_iff.mp hf'
        have E3 : EnR K g3 (wipeD env own) (wipe σ own) := ((E1.mono S'.le).mono S3.le).wipe own
        have h0 := wipe_G (K := K) tg x (wipe σ own) H3 own _ hown' (ok_G tg d _ ee (wipe σ own) x H3 g3 s' he1 W3 E3 r3 (fun σ' H0 => H0 = H3 ∧ EnR K g3 ee σ') fun σ' E' => ⟨rfl, E'⟩)
        refine mono_G tg x _ H3 _ _ h0 fun σ2 H2 ⟨ew, rfl, E2⟩ => ⟨ew.trans wipe_idem, ?_⟩
        refine ht ee g3 s' σ2 H2 tv s5 ht1 W3 E2 _ fun g4 H4 S4 W4 => ?_
        have keep : ∀ {g5 s6 H5}, Wf K g5 s6 H5 → Step b g4 s5 H4 g5 s6 H5 → Step b g' s' H' g5 s6 H5 := fun W5 S5 => (S3.trans W' W3 S4).trans W' W4 S5
        cases tv with
        | true =>
          rw [if_pos rfl]
          obtain ⟨⟨yd, s6⟩, hy, hf'⟩ := Option.map_eq_some_iff.mp hf'
          cases hf'
          refine he ee g4 s5 σ2 H4 yd _ hy W4 (E2.mono S4.le) _ fun yv g5 H5 S5 W5 r5 => ?_
          have S6 := keep W5 S5
          obtain ⟨a1, a2, a3⟩ := S6.keep_new hacc hr (fun vs z => by cases z) hF W'
          refine ⟨acc, a1, by rw [ra.length]; exact szl' (by omega), g5, _, acc ++ [yv], accD ++ [yd], rest', (S'.trans W1 W' S6).off hD, W5.off a2 a3, upd_same, a2, a3, (ra.mono S6.le).append (.cons r5 .nil), by rw [List.length_append, List.length_singleton]; omega, hlt, ?_, ?_⟩
          · cases hend; exact hR'
          · rw [hds]; cases hend; simp
        | false =>
          rw [if_neg Bool.false_ne_true]
          cases hf'
          have S6 := keep W4 .refl
          obtain ⟨a1, a2, a3⟩ := S6.keep_new hacc hr (fun vs z => by cases z) hF W'
          refine ⟨g4, _, acc, accD, rest', S'.trans W1 W' S6, W4, a1, a2, a3, ra.mono S6.le, by omega, hlt, ?_, ?_⟩
          · cases hend; exact hR'
          · rw [hds]; cases hend; rfl
  · cases e

/-! ### all together -/
theorem zip_keys : ∀ {ks : List Str} {vs : List V}, (ks.map V.str).zip vs = ((ks.map (Sum.inr : Str → Key)).zip vs).map fun kv => (kV kv.1, kv.2)
  | [], _ => rfl
  | _ :: _, [] => rfl
  | k :: ks, v :: vs => by
    rw [List.map_cons, List.zip_cons_cons, zip_keys]; rfl
/-- the defs stand as they are said -/
structure Lk (C : Cc) (c : Rc) : Prop where
  fn : c.fn = C.fn
  ar : ∀ i ds s r, C.fn i ds s = some r → ds.length = c.ar i
mutual
theorem sndE {C : Cc} {c : Rc} (L : Lk C c) (env : En) : ∀ e : E, OkE c.K C.bs env (rdE c e) (evE C env e)
  | .var i => fun g s σ H d s' e W E Q q => by
    simp only [evE] at e
    split at e
    · rename_i x hx
      cases e
      obtain ⟨v, h1, h2⟩ := E.get hx
      exact ⟨v, h1, q.now W h2⟩
    · cases e
  | .non => ok_con fun _ => .non
  | .bl b => ok_con fun _ => .bl b
  | .int i => ok_con fun _ => .int i
  | .str x => ok_con fun _ => .str x
  | .tup es => ok_tupE (sndEs L env es)
  | .lst es => ok_lstE (sndEs L env es)
  | .newL es => ok_newLE (sndEs L env es)
  | .newK => fun g s σ H d s' e W E Q q p hp => by
    cases e
    exact q.newK W .nil hp
  | .newT => fun g s σ H d s' e W E Q q p hp => by
    cases e
    exact q.newT W hp
  | .disp ks es => fun g s σ H d s' e W E Q q p hp => by
    simp only [evE] at e
    obtain ⟨⟨ds, s1⟩, e1, e⟩ := Option.bind_eq_some_iff.mp e
    simp only at e
    split at e
    · rename_i hc
      cases e
      have W0 : Wf c.K g s (upd H p (.dK [])) := W.exx (Exx.new hp)
      have hn : ∀ n : Nat, g.r[n]? ≠ some p := fun n h => W.at_ n p h hp
      refine sndDs L env es ks g s σ _ ds s1 e1 hc.1 W0 E _ fun vs g2 H2 S2 W2 r2 => ?_
      obtain ⟨a1, a2, a3⟩ := S2.keep_new upd_same hn (fun vs z => by cases z) (W.fnone hp) W0
      refine ⟨a1, (ks.map Sum.inr).zip vs, zip_keys, by rw [List.length_zip, List.length_map]; omega, ?_⟩
      have S3 : Step C.bs g s H g2 s1 H2 := ⟨S2.le, fun a o h hl => S2.keep a o (Exx.new hp a o h) hl, fun a h => S2.dom a ((Exx.new hp).dom h), fun a h => S2.nt a (h.upd fun z => absurd hp (z ▸ h.1)), fun a h f => S2.fresh a (h.upd fun z => absurd hp (z ▸ h.1)) f, fun n a h e => by
        have := S2.own n a h e
        by_cases z : a = p
        · subst z; exact hp
        · rw [upd_ne z] at this; exact this, S2.lm, S2.grow⟩
      have W3 := W2.off (o := .dK (mergeK [] ((ks.map Sum.inr).zip vs))) a2 a3
      obtain ⟨W4, r4⟩ := W3.take (q := .dK (mergeD [] ((ks.map Sum.inr).zip ds))) a2 a3 upd_same (RepM.merge (RepM.zip r2) .nil)
      exact q _ _ _ ((S3.off hp).take W3 hp) W4 r4
    · cases e
  | .bin o a b => ok_two (f := fun _ => evBin o) (sndE L env a) (sndE L env b) (ok_bin o)
  | .cmp o a b => fun g s σ H d s' e W E Q q => by
    refine ok_two (f := fun _ x y => (evCmp o x y).map D.bl) (sndE L env a) (sndE L env b) (ok_cmp o) g s σ H d s' ?_ W E Q q
    simp only [evE] at e
    simp only [Option.map_map]
    exact e
  | .chn o o' a b d => ok_chn (sndE L env a) (sndE L env b) (sndE L env d)
  | .not a => ok_notE (sndE L env a)
  | .and a b => ok_andE (sndE L env a) (sndE L env b)
  | .or a b => ok_orE (sndE L env a) (sndE L env b)
  | .ife t a b => ok_ife (sndT L env t) (sndE L env a) (sndE L env b)
  | .idx a b => ok_two (f := atD) (sndE L env a) (sndE L env b) ok_idx
  | .dget a k => ok_dget (sndE L env a) (sndE L env k)
  | .dnin k a => ok_dnin (sndE L env k) (sndE L env a)
  | .din k a => ok_din (sndE L env k) (sndE L env a)
  | .slc a lo hi => ok_slcE (sndE L env a) (sndO L env lo) (sndO L env hi)
  | .call p i es => fun g s σ H d s' e W E Q q => by
    simp only [evE] at e
    obtain ⟨⟨ds, s1⟩, e1, e⟩ := Option.bind_eq_some_iff.mp e
    refine sndEs L env es g s σ H ds s1 e1 W E _ fun vs g1 H1 S1 W1 r1 => ?_
    rw [List.append_nil, L.fn]
    exact run_sp (L.ar i) e W1 r1 (q.after W S1 W1)
  | .callK p i perm es ks => fun g s σ H d s' e W E Q q => by
    simp only [evE] at e
    obtain ⟨⟨ds, s1⟩, e1, e⟩ := Option.bind_eq_some_iff.mp e
    obtain ⟨⟨ds2, s2⟩, e2, e⟩ := Option.bind_eq_some_iff.mp e
    refine sndEs L env es g s σ H ds s1 e1 W E _ fun vs g1 H1 S1 W1 r1 => sndEs L env ks g1 s1 σ H1 ds2 s2 e2 W1 (E.mono S1.le) _ fun zs g2 H2 S2 W2 r2 => ?_
    rw [L.fn]
    exact run_sp (L.ar i) e W2 (perm_rep (r1.mono S2.le) r2) ((q.after W S1 W1).after W1 S2 W2)
  | .b1 f a => ok_b1E (sndE L env a)
  | .newLst a => ok_newLst (sndE L env a)
  | .tupRg a => ok_tupRg (sndE L env a)
  | .max2 a b => ok_max2 (sndE L env a) (sndE L env b)
  | .isI a t => ok_isiE (sndE L env a)
  | .join a b => ok_join (sndE L env a) (sndE L env b)
  | .pop a => ok_pop (sndE L env a)
  | .popAt a b => ok_popAt (sndE L env a) (sndE L env b)
  | .app a b => ok_app (sndE L env a) (sndE L env b)
  | .ext a b => ok_ext (sndE L env a) (sndE L env b)
  | .newSort a => ok_sort (sndE L env a)
  | .lc g it t e own => ok_lc (sndI L env it) (fun e1 => sndT L e1 t) (fun e1 => sndE L e1 e)
theorem sndEs {C : Cc} {c : Rc} (L : Lk C c) (env : En) : ∀ es : Es, OkA c.K C.bs env (rdEs c es) (evEs C env es)
  | .nil => fun g s σ H d s' e W E Q q => by
    cases e
    exact q [] g H .refl W .nil
  | .cons e es => fun g s σ H d s' h W E Q q => by
    simp only [evEs] at h
    obtain ⟨⟨x, s1⟩, e1, h⟩ := Option.bind_eq_some_iff.mp h
    obtain ⟨⟨xs, s2⟩, e2, h⟩ := Option.map_eq_some_iff.mp h
    cases h
    exact sndE L env e g s σ H x s1 e1 W E _ fun v g1 H1 S1 W1 r1 => sndEs L env es g1 s1 σ H1 xs _ e2 W1 (E.mono S1.le) _ fun vs g2 H2 S2 W2 r2 =>
      q (v :: vs) g2 H2 (S1.trans W W1 S2) W2 (.cons (r1.mono S2.le) r2)
theorem sndDs {C : Cc} {c : Rc} (L : Lk C c) (env : En) : ∀ (es : Es) (ks : List Str), ∀ g s σ H ds s', evEs C env es s = some (ds, s') → ds.length = ks.length → Wf c.K g s H → EnR c.K g env σ → ∀ Q : List (V × V) → Hp → Prop,
    PostL c.K C.bs g s H ds s' (fun vs => Q ((ks.map V.str).zip vs)) → tPairs (rdDs c ks es) σ H Q
  | .nil, ks => fun g s σ H d s' e hl W E Q q => by
    cases e
    cases ks with
    | nil => exact q [] g H .refl W .nil
    | cons k t => simp at hl
  | .cons e es, [] => fun g s σ H d s' h hl W E Q q => by
    simp only [evEs] at h
    obtain ⟨⟨x, s1⟩, e1, h⟩ := Option.bind_eq_some_iff.mp h
    obtain ⟨⟨xs, s2⟩, e2, h⟩ := Option.map_eq_some_iff.mp h
    cases h
    simp at hl
  | .cons e es, k :: ks => fun g s σ H d s' h hl W E Q q => by
    simp only [evEs] at h
    obtain ⟨⟨x, s1⟩, e1, h⟩ := Option.bind_eq_some_iff.mp h
    obtain ⟨⟨xs, s2⟩, e2, h⟩ := Option.map_eq_some_iff.mp h
    cases h
    exact sndE L env e g s σ H x s1 e1 W E _ fun v g1 H1 S1 W1 r1 => sndDs L env es ks g1 s1 σ H1 xs _ e2 (by simpa using hl) W1 (E.mono S1.le) _ fun vs g2 H2 S2 W2 r2 =>
      q (v :: vs) g2 H2 (S1.trans W W1 S2) W2 (.cons (r1.mono S2.le) r2)
theorem sndO {C : Cc} {c : Rc} (L : Lk C c) (env : En) : ∀ o : Oe, OkO c.K C.bs env (rdO c o) (evOe C env o)
  | .none => fun g s σ H d s' e W E Q q => by
    cases e
    exact q g H .refl W
  | .some e => fun g s σ H d s' h W E Q q => by
    simp only [evOe] at h
    obtain ⟨⟨x, s1⟩, e1, h⟩ := Option.bind_eq_some_iff.mp h
    refine sndE L env e g s σ H x s1 e1 W E _ fun v g1 H1 S1 W1 r1 => ?_
    cases r1 with
    | int i => cases h; exact ⟨i, rfl, q g1 H1 S1 W1⟩
    | _ => simp at h
theorem sndT {C : Cc} {c : Rc} (L : Lk C c) (env : En) : ∀ t : T, OkT c.K C.bs env (rdT c t) (evT C env t)
  | .yes => fun g s σ H d s' e W E Q q => by
    cases e
    exact q g H .refl W
  | .tru e => fun g s σ H d s' h W E Q q => by
    simp only [evT] at h
    obtain ⟨⟨x, s1⟩, e1, h⟩ := Option.bind_eq_some_iff.mp h
    obtain ⟨k, hk, h⟩ := Option.map_eq_some_iff.mp h
    cases h
    exact sndE L env e g s σ H x _ e1 W E _ fun v g1 H1 S1 W1 r1 => ⟨_, ok_tru hk W1 r1, q g1 H1 S1 W1⟩
  | .val e => fun g s σ H d s' h W E Q q => by
    simp only [evT] at h
    obtain ⟨⟨x, s1⟩, e1, h⟩ := Option.bind_eq_some_iff.mp h
    refine sndE L env e g s σ H x s1 e1 W E _ fun v g1 H1 S1 W1 r1 => ?_
    cases r1 with
    | bl k => cases h; exact ⟨_, rfl, q g1 H1 S1 W1⟩
    | _ => simp at h
  | .and a b => fun g s σ H d s' h W E Q q => by
    simp only [evT] at h
    obtain ⟨⟨x, s1⟩, e1, h⟩ := Option.bind_eq_some_iff.mp h
    refine sndT L env a g s σ H x s1 e1 W E _ fun g1 H1 S1 W1 => ?_
    cases x with
    | true =>
      show rdT c b σ H1 Q
      exact sndT L env b g1 s1 σ H1 d s' h W1 (E.mono S1.le) Q fun g2 H2 S2 W2 => q g2 H2 (S1.trans W W1 S2) W2
    | false => cases h; exact q g1 H1 S1 W1
  | .or a b => fun g s σ H d s' h W E Q q => by
    simp only [evT] at h
    obtain ⟨⟨x, s1⟩, e1, h⟩ := Option.bind_eq_some_iff.mp h
    refine sndT L env a g s σ H x s1 e1 W E _ fun g1 H1 S1 W1 => ?_
    cases x with
    | false =>
      show rdT c b σ H1 Q
      exact sndT L env b g1 s1 σ H1 d s' h W1 (E.mono S1.le) Q fun g2 H2 S2 W2 => q g2 H2 (S1.trans W W1 S2) W2
    | true => cases h; exact q g1 H1 S1 W1
  | .not a => fun g s σ H d s' h W E Q q => by
    simp only [evT] at h
    obtain ⟨⟨x, s1⟩, e1, h⟩ := Option.map_eq_some_iff.mp h
    cases h
    exact sndT L env a g s σ H x _ e1 W E _ fun g1 H1 S1 W1 => q g1 H1 S1 W1
theorem sndI {C : Cc} {c : Rc} (L : Lk C c) (env : En) : ∀ t : It, OkI c.K C.bs env (rdI c t) (evI C env t)
  | .seq e => fun g s σ H d s' h W E R q => by
    simp only [evI] at h
    obtain ⟨⟨x, s1⟩, e1, h⟩ := Option.bind_eq_some_iff.mp h
    obtain ⟨src, hs, h⟩ := Option.map_eq_some_iff.mp h
    cases h
    refine sndE L env e g s σ H x _ e1 W E _ fun v g1 H1 S1 W1 r1 => ?_
    cases r1 with
    | tup ha ra =>
      simp only [seqSrc, Option.some.injEq] at hs
      subst hs
      exact ⟨_, rfl, .inr ⟨⟨_, .of (W1.hT ha)⟩, q _ g1 H1 S1 W1 (goes_tup ha ra)⟩⟩
    | lst ha ra =>
      simp only [seqSrc, Option.some.injEq] at hs
      subst hs
      exact ⟨_, rfl, .inl ⟨⟨_, .of (W1.hL ha)⟩, q _ g1 H1 S1 W1 (goes_lst ha ra)⟩⟩
    | scr ha =>
      simp only [seqSrc, Option.some.injEq] at hs
      subst hs
      exact ⟨_, rfl, .inl ⟨⟨_, W1.sqL ha⟩, q _ g1 H1 S1 W1 (goes_scr ha)⟩⟩
    | obj ha =>
      simp only [seqSrc] at hs
      split at hs
      · rename_i xs hx
        cases hs
        obtain ⟨a', vs, h1, h2, h3⟩ := W1.objL hx
        rw [ha] at h1; cases h1
        exact ⟨_, rfl, .inl ⟨⟨vs, .of h2⟩, q _ g1 H1 S1 W1 (goes_obj ha)⟩⟩
      · cases hs
    | _ => simp [seqSrc] at hs
  | .rng1 e => fun g s σ H d s' h W E R q => by
    simp only [evI] at h
    obtain ⟨⟨x, s1⟩, e1, h⟩ := Option.bind_eq_some_iff.mp h
    refine sndE L env e g s σ H x _ e1 W E _ fun v g1 H1 S1 W1 r1 => ?_
    cases r1 with
    | int n =>
      simp only at h
      split at h
      · rename_i hn
        cases h
        have hZ : (ZL : Nat) = 1000000 := rfl
        refine ⟨n, rfl, by omega, by omega, q _ g1 H1 S1 W1 (goes_rng ?_)⟩
        unfold rgD
        simp only [Int.zero_add]
      · cases h
    | _ => simp at h
  | .rng2 a b => fun g s σ H d s' h W E R q => by
    simp only [evI] at h
    obtain ⟨⟨x, s1⟩, e1, h⟩ := Option.bind_eq_some_iff.mp h
    obtain ⟨⟨y, s2⟩, e2, h⟩ := Option.bind_eq_some_iff.mp h
    refine sndE L env a g s σ H x s1 e1 W E _ fun v g1 H1 S1 W1 r1 => sndE L env b g1 s1 σ H1 y s2 e2 W1 (E.mono S1.le) _ fun u g2 H2 S2 W2 r2 => ?_
    cases r1 with
    | int i =>
      cases r2 with
      | int j =>
        simp only at h
        split at h
        · rename_i hn
          cases h
          have hZ : (ZL : Nat) = 1000000 := rfl
          exact ⟨i, j, rfl, ⟨by omega, by omega, by omega, by omega⟩, q _ g2 H2 (S1.trans W W1 S2) W2 (goes_rng rfl)⟩
        · cases h
      | _ => simp at h
    | _ => simp at h
  | .zip a b => fun g s σ H d s' h W E R q => by
    simp only [evI] at h
    obtain ⟨⟨x, s1⟩, e1, h⟩ := Option.bind_eq_some_iff.mp h
    obtain ⟨⟨y, s2⟩, e2, h⟩ := Option.bind_eq_some_iff.mp h
    obtain ⟨src, hs, h⟩ := Option.map_eq_some_iff.mp h
    cases h
    refine sndE L env a g s σ H x s1 e1 W E _ fun v g1 H1 S1 W1 r1 => sndE L env b g1 s1 σ H1 y _ e2 W1 (E.mono S1.le) _ fun u g2 H2 S2 W2 r2 => ?_
    cases r1 with
    | tup ha ra =>
      cases r2 with
      | tup hb rb =>
        simp only [zipSrc] at hs
        split at hs
        · cases hs
          have ha2 := S2.le.F _ _ ha
          exact ⟨_, _, _, _, rfl, .inr ⟨.of (W2.hT ha2), .of (W2.hT hb), q _ g2 H2 (S1.trans W W1 S2) W2 (goes_zipT ha2 (ra.mono S2.le) hb rb (by assumption))⟩⟩
        · cases hs
      | _ => simp [zipSrc] at hs
    | _ => simp [zipSrc] at hs
  | .keys i => fun g s σ H d s' h W E R q => by simp [evI] at h
end
end
end Fw

/-! Fw, part H: statements, blocks, defs. -/
namespace Fw
open PySem PySem.Spec PyProof.Rows L2

def PostS (K : PySem.W.Frag) (b : Nat) (g : Gh) (s : Sto) (H : Hp) (rs : Rs) (D : Ends) : Prop :=
  match rs with
  | .nx e s' => ∀ σ' g' H', Step b g s H g' s' H' → Wf K g' s' H' → EnR K g' e σ' → D.nx σ' H'
  | .rt d s' => ∀ v g' H', Step b g s H g' s' H' → Wf K g' s' H' → Rep K g' v d → D.rt v H'
  | .bk e s' => ∀ σ' g' H', Step b g s H g' s' H' → Wf K g' s' H' → EnR K g' e σ' → D.bk σ' H'
  | .ct e s' => ∀ σ' g' H', Step b g s H g' s' H' → Wf K g' s' H' → EnR K g' e σ' → D.ct σ' H'
def OkS (K : PySem.W.Frag) (b : Nat) (ts : TS) (f : En → Sto → Option Rs) : Prop := ∀ g s env σ H rs, f env s = some rs → Wf K g s H → EnR K g env σ → ∀ D, PostS K b g s H rs D → ts D σ H

section
variable {K : PySem.W.Frag} {b : Nat}
theorem PostS.after {g g1 : Gh} {s s1 : Sto} {H H1 : Hp} {rs : Rs} {D : Ends} (W : Wf K g s H) (S : Step b g s H g1 s1 H1) (W1 : Wf K g1 s1 H1) (q : PostS K b g s H rs D) : PostS K b g1 s1 H1 rs D := by
  cases rs with
  | nx e s' => exact fun σ' g' H' S' W' E' => q σ' g' H' (S.trans W W1 S') W' E'
  | rt e s' => exact fun σ' g' H' S' W' E' => q σ' g' H' (S.trans W W1 S') W' E'
  | bk e s' => exact fun σ' g' H' S' W' E' => q σ' g' H' (S.trans W W1 S') W' E'
  | ct e s' => exact fun σ' g' H' S' W' E' => q σ' g' H' (S.trans W W1 S') W' E'

/-- a for's turns -/
theorem for_go {ts : TS} {fb : En → Sto → Option Rs} (hb : OkS K b ts fb) {tg : G} {l : List D} {J : L2.It} {g1 : Gh} {s1 : Sto} {H1 : Hp} {env : En} {σ : L2.St} {rs : Rs} {D : Ends} (goes : Goes K b g1 s1 H1 J (.vals l)) (h : forV fb tg l env s1 = some rs) (W1 : Wf K g1 s1 H1) (E : EnR K g1 env σ) (q : PostS K b g1 s1 H1 rs D) :
    ∃ W : Nat → Nat → L2.St → Hp → Prop, (∃ m, W 0 m σ H1) ∧ ∀ i m σ H, W i m σ H → (J.stop i H ∧ D.nx σ H) ∨ (J.go i H ∧ ∃ N : L2.St → Hp → Prop, (∀ σ' H', N σ' H' → ∃ m', m' < m ∧ W (i + 1) m' σ' H') ∧ ∀ x H', J.yld i H x H' → rdG K tg x σ H' fun σ2 H2 => ts { D with nx := N, ct := N, bk := D.nx } σ2 H2) := by
  let T : Nat → L2.St → Hp → Prop := fun i σ' H' => ∃ g' s' env', Step b g1 s1 H1 g' s' H' ∧ Wf K g' s' H' ∧ EnR K g' env' σ' ∧ i ≤ l.length ∧ forV fb tg (l.drop i) env' s' = some rs
  refine ⟨fun i m σ' H' => T i σ' H' ∧ m = l.length - i, ⟨l.length, ⟨g1, s1, env, .refl, W1, E, Nat.zero_le _, h⟩, rfl⟩, ?_⟩
  rintro i m σ2 H2 ⟨⟨g2, s2, env2, S2, W2, E2, hi, hf⟩, rfl⟩
  by_cases e : i = l.length
  · left
    subst e
    rw [List.drop_length] at hf
    cases hf
    exact ⟨goes.done _ g2 s2 H2 S2 W2 (Nat.le_refl _), q σ2 g2 H2 S2 W2 E2⟩
  · right
    have hl : i < l.length := by omega
    obtain ⟨hgo, hyl⟩ := goes.item i g2 s2 H2 l[i] S2 W2 (List.getElem?_eq_getElem hl)
    refine ⟨hgo, T (i + 1), fun σ' H' t => ⟨l.length - (i + 1), by omega, t, rfl⟩, fun x H3 y3 => ?_⟩
    obtain ⟨g3, S3, W3, r3⟩ := hyl x H3 y3
    rw [List.drop_eq_getElem_cons hl] at hf
    simp only [forV] at hf
    split at hf
    · cases hf
    · rename_i e1 he1
      have S23 := S2.trans W1 W2 S3
      have q3 := q.after W1 S23 W3
      have again : ∀ {e2 s4}, forV fb tg (l.drop (i + 1)) e2 s4 = some rs → ∀ σ' g' H', Step b g3 s2 H3 g' s4 H' → Wf K g' s4 H' → EnR K g' e2 σ' → T (i + 1) σ' H' := fun {e2 s4} h σ' g' H' S' W' E' => ⟨g', s4, e2, S23.trans W1 W3 S', W', E', hl, h⟩
      refine ok_G tg _ env2 e1 σ2 x H3 g3 s2 he1 W3 (E2.mono S3.le) r3 _ fun σ' E' => ?_
      split at hf
      · rename_i e2 s4 hb4
        exact hb g3 s2 e1 σ' H3 _ hb4 W3 E' _ (again hf)
      · rename_i e2 s4 hb4
        exact hb g3 s2 e1 σ' H3 _ hb4 W3 E' _ (again hf)
      · rename_i e2 s4 hb4
        cases hf
        exact hb g3 s2 e1 σ' H3 _ hb4 W3 E' _ q3
      · rename_i e2 s4 hb4
        cases hf
        exact hb g3 s2 e1 σ' H3 _ hb4 W3 E' _ q3
      · cases hf
/-- a while -/
theorem while_go {t : TT} {ts : TS} {ft : En → Sto → Option (Bool × Sto)} {fb : En → Sto → Option Rs} (ht : ∀ env, OkT K b env t (ft env)) (hb : OkS K b ts fb) (n : Nat) : OkS K b (tWhile t ts) (fun e s => whileF ft fb n e s) := fun g1 s1 env σ H1 rs h W1 E D q => by
  let T : Nat → L2.St → Hp → Prop := fun m σ' H' => ∃ g' s' env', Step b g1 s1 H1 g' s' H' ∧ Wf K g' s' H' ∧ EnR K g' env' σ' ∧ whileF ft fb m env' s' = some rs
  refine ⟨T, ⟨n, g1, s1, env, .refl, W1, E, h⟩, ?_⟩
  rintro m σ2 H2 ⟨g2, s2, env2, S2, W2, E2, hf⟩
  cases m with
  | zero => cases hf
  | succ m =>
    simp only [whileF] at hf
    split at hf
    · cases hf
    · rename_i s3 h3
      cases hf
      refine ht env2 g2 s2 σ2 H2 _ _ h3 W2 E2 _ fun g3 H3 S3 W3 => ?_
      rw [if_neg Bool.false_ne_true]
      exact q σ2 g3 H3 (S2.trans W1 W2 S3) W3 (E2.mono S3.le)
    · rename_i s3 h3
      refine ht env2 g2 s2 σ2 H2 _ _ h3 W2 E2 _ fun g3 H3 S3 W3 => ?_
      rw [if_pos rfl]
      have S23 := S2.trans W1 W2 S3
      have q3 := q.after W1 S23 W3
      refine ⟨T m, fun σ' H' t => ⟨m, Nat.lt_succ_self m, t⟩, ?_⟩
      have again : ∀ {e2 s4}, whileF ft fb m e2 s4 = some rs → ∀ σ' g' H', Step b g3 s3 H3 g' s4 H' → Wf K g' s4 H' → EnR K g' e2 σ' → T m σ' H' := fun {e2 s4} h σ' g' H' S' W' E' => ⟨g', s4, e2, S23.trans W1 W3 S', W', E', h⟩
      split at hf
      · rename_i e2 s4 hb4
        exact hb g3 s3 env2 σ2 H3 _ hb4 W3 (E2.mono S3.le) _ (again hf)
      · rename_i e2 s4 hb4
        exact hb g3 s3 env2 σ2 H3 _ hb4 W3 (E2.mono S3.le) _ (again hf)
      · rename_i e2 s4 hb4
        cases hf
        exact hb g3 s3 env2 σ2 H3 _ hb4 W3 (E2.mono S3.le) _ q3
      · rename_i e2 s4 hb4
        cases hf
        exact hb g3 s3 env2 σ2 H3 _ hb4 W3 (E2.mono S3.le) _ q3
      · cases hf
/-- an object is taken to stand as it is from here on -/
theorem Wf.freeze {g : Gh} {s : Sto} {H : Hp} (W : Wf K g s H) {n : Nat} {c : Ob} {a : Addr} {o : HO} (hb : b ≤ n) (hc : getO s n = some c) (hl : c.live = true) (ha : g.r[n]? = some a) (ho : H a = some o) (hr : RepO K g o c) {c' : Option Ob} (hc' : ∀ q, c' = some q → q.live = false) (hf : ∀ kvs, c' = some (.fT kvs) → ∃ kv, o = .dT kv ∧ RepM K g kv kvs) :
    Step b g s H ⟨upd g.F a o, g.r⟩ (setO s n c') H ∧ Wf K ⟨upd g.F a o, g.r⟩ (setO s n c') H := by
  obtain ⟨a', u, h1, h2, h3, h4⟩ := W.liv n c hc hl
  rw [ha] at h1; cases h1
  have lv : live s n := ⟨c, hc, hl⟩
  have le := le_adopt (o := o) h2
  have back : ∀ m, live (setO s n c') m → live s m ∧ m ≠ n := fun m ⟨d, h, hd⟩ => by
    rcases getO_set h with ⟨ne, h⟩ | ⟨rfl, h, _⟩
    · exact ⟨⟨d, h, hd⟩, ne⟩
    · have := hc' d h
      rw [hd] at this; cases this
  refine ⟨⟨le, fun _ _ e _ => e, fun _ e => e, fun _ e => e, fun x e f => ?_, fun m x h e => ?_, fun m h _ => (back m h).1, by unfold setO; rw [List.length_set]; exact Nat.le_refl _⟩, ⟨fun x u e => ?_, by unfold setO; rw [List.length_set]; exact W.len, W.at_, fun m d h hd => ?_, fun m kvs h => ?_, fun m k x hm hk em ek => W.inj m k x (back m hm).1 (back k hk).1 em ek⟩⟩
  · by_cases z : x = a
    · subst z; exact .inr ⟨n, hb, ha⟩
    · left
      show upd g.F a o x = none
      rw [upd_ne z]; exact f
  · have e' : g.r[m]? = some x := e
    rw [List.getElem?_eq_none h] at e'; cases e'
  · have e' : upd g.F a o x = some u := e
    by_cases z : x = a
    · subst z; rw [upd_same] at e'; cases e'; exact .inl ho
    · rw [upd_ne z] at e'; exact W.ext x u e'
  · obtain ⟨lm, ne⟩ := back m ⟨d, h, hd⟩
    rcases getO_set h with ⟨_, h⟩ | ⟨e, _, _⟩
    · obtain ⟨x, v, k1, k2, k3, k4⟩ := W.liv m d h hd
      have z : x ≠ a := fun z => by subst z; exact ne (W.inj m n x ⟨d, h, hd⟩ lv k1 ha)
      refine ⟨x, v, k1, ?_, k3, k4.mono le⟩
      show upd g.F a o x = none
      rw [upd_ne z]; exact k2
    · exact absurd e ne
  · rcases getO_set h with ⟨_, h⟩ | ⟨rfl, h, _⟩
    · obtain ⟨x, kv, k1, k2, k3⟩ := W.fT m kvs h
      exact ⟨x, kv, k1, le.F _ _ k2, k3.mono le⟩
    · obtain ⟨kv, rfl, rk⟩ := hf kvs h
      exact ⟨a, kv, ha, upd_same, rk.mono le⟩
theorem frz_ok {g : Gh} {s s1 : Sto} {H : Hp} {env e1 : En} {σ : L2.St} {i : Nat} (h : frzS b i env s = some (e1, s1)) (W : Wf K g s H) (E : EnR K g env σ) : ∃ g', Step b g s H g' s1 H ∧ Wf K g' s1 H ∧ EnR K g' e1 σ := by
  unfold frzS at h
  split at h
  · rename_i n hn
    split at h
    · rename_i hb
      obtain ⟨v, hv, rv⟩ := E.get hn
      split at h
      · rename_i xs hx
        cases h
        obtain ⟨a, vs, h1, h2, h3⟩ := W.objL hx
        have := rv.at_ h1
        subst this
        obtain ⟨S', W'⟩ := W.freeze hb hx rfl h1 h2 (o := .lst vs) h3 (c' := none) (fun q z => by cases z) (fun kvs z => by cases z)
        exact ⟨_, S', W', EnR.reset (.lst (show upd g.F a _ a = _ from upd_same) (h3.mono S'.le)) i (E.mono S'.le) hv⟩
      · rename_i kvs hx
        cases h
        obtain ⟨a, vs, h1, h2, h3⟩ := W.objT hx
        obtain ⟨S', W'⟩ := W.freeze hb hx rfl h1 h2 (o := .dT vs) h3 (c' := some (.fT kvs)) (fun q z => by cases z; rfl) (fun kvs z => by cases z; exact ⟨vs, rfl, h3⟩)
        exact ⟨_, S', W', E.mono S'.le⟩
      · cases h
    · cases h
  · cases h; exact ⟨g, .refl, W, E⟩
  · cases h
theorem RepM.at_ {κ : Type} {g : Gh} : ∀ {a : List (κ × V)} {c : List (κ × D)} {j : Nat} {k k' : κ} {v : V} {d : D}, RepM K g a c → a[j]? = some (k, v) → c[j]? = some (k', d) → k = k'
  | _, _, _, _, _, _, _, .nil, h, _ => by simp at h
  | _, _, 0, _, _, _, _, .cons _ _, h, h' => by
    simp at h h'
    rw [← h.1, ← h'.1]
  | _, _, j + 1, _, _, _, _, .cons _ r, h, h' => RepM.at_ r (by simpa using h) (by simpa using h')
/-- the keys of a dict, gone through under a lock -/
theorem keys_go {ts : TS} {fb : En → Sto → Option Rs} (hb : OkS K b ts fb) {tg : G} {i : Nat} : OkS K b (tLock (tFor (iKeys (tVar i)) (rdG K tg) ts)) (fun env s => (keySrc b s env i).bind fun p => forV fb tg p.1 env p.2) := fun g s env σ H rs h W E D q => by
  obtain ⟨⟨l, s1⟩, h1, h2⟩ := Option.bind_eq_some_iff.mp h
  unfold keySrc at h1
  split at h1
  · rename_i n hn
    split at h1
    · rename_i hbn
      split at h1
      · rename_i kvs hx
        cases h1
        obtain ⟨v, hv, rv⟩ := E.get hn
        obtain ⟨a, vs, k1, k2, k3⟩ := W.objT hx
        have := rv.at_ k1
        subst this
        obtain ⟨S1, W1⟩ := W.freeze hbn hx rfl k1 k2 (o := .dT vs) k3 (c' := some (.fT kvs)) (fun q z => by cases z; rfl) (fun kvs z => by cases z; exact ⟨vs, rfl, k3⟩)
        refine ⟨a, .dT vs, k2, trivial, fun od => ?_⟩
        -- within the lock
        have nl : ∀ m : Nat, live (setO s n (some (.fT kvs))) m → g.r[m]? ≠ some a := fun m lm e => by
          obtain ⟨c, hc, hl⟩ := lm
          obtain ⟨x, u, z1, z2, _, _⟩ := W1.liv m c hc hl
          have z1' : g.r[m]? = some x := z1
          rw [e] at z1'; cases z1'
          have z2' : upd g.F a (.dT vs) a = none := z2
          rw [upd_same] at z2'; cases z2'
        have Wi : Wf K ⟨upd g.F a (.dT vs), g.r⟩ (setO s n (some (.fT kvs))) (upd H a (.frz od (.dT vs))) := {
          ext := fun x u e => by
            by_cases z : x = a
            · subst z
              have e' : upd g.F x (.dT vs) x = some u := e
              rw [upd_same] at e'; cases e'
              exact .inr ⟨rfl, od, upd_same⟩
            · rw [upd_ne z]; exact W1.ext x u e
          len := W1.len
          at_ := fun m x e => by
            by_cases z : x = a
            · subst z; rw [upd_same]; intro w; cases w
            · rw [upd_ne z]; exact W1.at_ m x e
          liv := fun m c hc hl => by
            obtain ⟨x, u, z1, z2, z3, z4⟩ := W1.liv m c hc hl
            have z : x ≠ a := fun z => by subst z; exact nl m ⟨c, hc, hl⟩ z1
            exact ⟨x, u, z1, z2, by rw [upd_ne z]; exact z3, z4⟩
          fT := W1.fT
          inj := W1.inj }
        -- how it ends
        have out : ∀ {g2 s2 H2}, Step b ⟨upd g.F a (.dT vs), g.r⟩ (setO s n (some (.fT kvs))) (upd H a (.frz od (.dT vs))) g2 s2 H2 → Wf K g2 s2 H2 → H2 a = some (.frz od (.dT vs)) ∧ Step b g s H g2 s2 (upd H2 a (.dT vs)) ∧ Wf K g2 s2 (upd H2 a (.dT vs)) := fun {g2 s2 H2} S2 W2 => by
          have kp := S2.keep a _ upd_same nl
          have Fa : g2.F a = some (.dT vs) := S2.le.F a _ (show upd g.F a _ a = _ from upd_same)
          have nl2 : ∀ m : Nat, live s2 m → g2.r[m]? ≠ some a := fun m ⟨c, hc, hl⟩ e => by
            obtain ⟨x, u, z1, z2, _, _⟩ := W2.liv m c hc hl
            rw [e] at z1; cases z1
            rw [Fa] at z2; cases z2
          refine ⟨kp, ⟨S1.le.trans S2.le, fun x o e hnl => ?_, fun x e => ?_, fun x e => ?_, fun x e f => ?_, fun m x hm e => ?_, fun m hm hi => ?_, ?_⟩, ⟨fun x u e => ?_, W2.len, fun m x e => ?_, fun m c hc hl => ?_, W2.fT, W2.inj⟩⟩
          · have z : x ≠ a := fun z => by subst z; exact hnl n ⟨_, hx, rfl⟩ k1
            rw [upd_ne z]
            refine S2.keep x o (by rw [upd_ne z]; exact e) fun m lm e' => ?_
            have e'' : g.r[m]? = some x := e'
            obtain ⟨c, hc, hl⟩ := lm
            rcases getO_set hc with ⟨_, hc⟩ | ⟨_, hc, _⟩
            · exact hnl m ⟨c, hc, hl⟩ e''
            · cases hc; cases hl
          · by_cases z : x = a
            · subst z; rw [upd_same]; intro w; cases w
            · rw [upd_ne z]
              exact S2.dom x (by rw [upd_ne z]; exact e)
          · by_cases z : x = a
            · subst z; exact .of upd_same fun vs z => by cases z
            · have := S2.nt x (show NT (upd H a _) x by unfold NT; rw [upd_ne z]; exact e)
              unfold NT; rw [upd_ne z]; exact this
          · by_cases z : x = a
            · subst z; exact .inr ⟨n, hbn, k1⟩
            · have := S2.fresh x (show NT (upd H a _) x by unfold NT; rw [upd_ne z]; exact e) (by show upd g.F a _ x = none; rw [upd_ne z]; exact f)
              exact this
          · have := S2.own m x hm e
            by_cases z : x = a
            · subst z; rw [upd_same] at this; cases this
            · rw [upd_ne z] at this; exact this
          · have := S2.lm m hm (by unfold setO; rw [List.length_set]; exact hi)
            exact S1.lm m this hi
          · have := S2.grow
            unfold setO at this
            rw [List.length_set] at this
            exact this
          · by_cases z : x = a
            · subst z
              rw [Fa] at e; cases e
              exact .inl upd_same
            · rw [upd_ne z]; exact W2.ext x u e
          · by_cases z : x = a
            · subst z; rw [upd_same]; intro w; cases w
            · rw [upd_ne z]; exact W2.at_ m x e
          · obtain ⟨x, u, z1, z2, z3, z4⟩ := W2.liv m c hc hl
            have z : x ≠ a := fun z => by subst z; exact nl2 m ⟨c, hc, hl⟩ z1
            exact ⟨x, u, z1, z2, by rw [upd_ne z]; exact z3, z4⟩
        have Ei := E.mono S1.le
        refine ⟨_, hv, a, od, rfl, .inr ⟨vs, upd_same, ?_⟩⟩
        refine for_go hb (J := Itkt a od vs) (l := kvs.map fun kv => .tup (kv.1.map ofKey)) ⟨fun j g2 s2 H2 d S2 W2 hd => ?_, fun j g2 s2 H2 S2 W2 hd => ?_⟩ h2 Wi Ei ?_
        · have kp := S2.keep a _ upd_same nl
          simp only [Src.at_, List.getElem?_map, Option.map_eq_some_iff] at hd
          obtain ⟨⟨k, dd⟩, hk, rfl⟩ := hd
          obtain ⟨hlt, _⟩ := List.getElem?_eq_some_iff.mp hk
          refine ⟨⟨kp, by rw [k3.length]; exact hlt⟩, fun x H3 y => ?_⟩
          obtain ⟨rfl, k', v', p, hv', rfl, hp⟩ := y
          have ek := RepM.at_ k3 hv' hk
          subst ek
          obtain ⟨g3, S3, W3, hF3⟩ := W2.learn (b := b) hp
          exact ⟨g3, S3, W3, .tup hF3 (RepL.ofKeys k')⟩
        · have kp := S2.keep a _ upd_same nl
          simp only [Src.stop, List.length_map] at hd
          exact ⟨kp, by rw [k3.length]; exact hd⟩
        · cases rs with
          | nx e s' => exact fun σ' g' H' S' W' E' => let ⟨o1, o2, o3⟩ := out S' W'; ⟨o1, q σ' g' _ o2 o3 E'⟩
          | rt d s' => exact fun v g' H' S' W' r' => let ⟨o1, o2, o3⟩ := out S' W'; ⟨o1, q v g' _ o2 o3 r'⟩
          | bk e s' => exact fun σ' g' H' S' W' E' => let ⟨o1, o2, o3⟩ := out S' W'; ⟨o1, q σ' g' _ o2 o3 E'⟩
          | ct e s' => exact fun σ' g' H' S' W' E' => let ⟨o1, o2, o3⟩ := out S' W'; ⟨o1, q σ' g' _ o2 o3 E'⟩
      · cases h1
    · cases h1
  · cases h1

/-! ### all statements -/
theorem for_src {C : Cc} {c : Rc} (L : Lk C c) (t : G) (it : It) (bd : Ss) (hb : OkS c.K C.bs (rdSs c bd) (exSs C bd)) (hk : ∀ i, it ≠ .keys i) (hr : rdS c (.for_ t it bd) = tFor (rdI c it) (rdG c.K t) (rdSs c bd))
    (he : ∀ env s, exS C (.for_ t it bd) env s = (evI C env it s).bind fun p => match p.1 with
      | .vals l => forV (fun e s1 => exSs C bd e s1) t l env p.2
      | .objl _ _ => none) : OkS c.K C.bs (rdS c (.for_ t it bd)) (exS C (.for_ t it bd)) := fun g s env σ H rs h W E D q => by
  rw [he] at h
  rw [hr]
  obtain ⟨⟨src, s1⟩, e1, h⟩ := Option.bind_eq_some_iff.mp h
  refine sndI L env it g s σ H src s1 e1 W E _ fun J g1 H1 S1 W1 goes => ?_
  cases src with
  | vals l => exact for_go hb goes h W1 (E.mono S1.le) (q.after W S1 W1)
  | objl n k => simp at h
mutual
theorem sndS {C : Cc} {c : Rc} (L : Lk C c) : ∀ st : S, OkS c.K C.bs (rdS c st) (exS C st)
  | .asg t e => fun g s env σ H rs h W E D q => by
    simp only [exS] at h
    obtain ⟨⟨x, s1⟩, e1, h⟩ := Option.bind_eq_some_iff.mp h
    obtain ⟨env1, e2, h⟩ := Option.map_eq_some_iff.mp h
    cases h
    exact sndE L env e g s σ H x s1 e1 W E _ fun v g1 H1 S1 W1 r1 => ok_G t x env env1 σ v H1 g1 s1 e2 W1 (E.mono S1.le) r1 _ fun σ' E' => q σ' g1 H1 S1 W1 E'
  | .par i j a b => fun g s env σ H rs h W E D q => by
    simp only [exS] at h
    obtain ⟨⟨x, s1⟩, e1, h⟩ := Option.bind_eq_some_iff.mp h
    obtain ⟨⟨y, s2⟩, e2, h⟩ := Option.map_eq_some_iff.mp h
    cases h
    refine sndE L env a g s σ H x s1 e1 W E _ fun v g1 H1 S1 W1 r1 => sndE L env b g1 s1 σ H1 y _ e2 W1 (E.mono S1.le) _ fun u g2 H2 S2 W2 r2 => ?_
    exact ⟨v, u, rfl, q _ g2 H2 (S1.trans W W1 S2) W2 (EnR.set r2 j (EnR.set (r1.mono S2.le) i ((E.mono S1.le).mono S2.le)))⟩
  | .seti o i e => fun g s env σ H rs h W E D q => by
    simp only [exS] at h
    obtain ⟨⟨x, s1⟩, e1, h⟩ := Option.bind_eq_some_iff.mp h
    obtain ⟨⟨y, s2⟩, e2, h⟩ := Option.bind_eq_some_iff.mp h
    obtain ⟨⟨z, s3⟩, e3, h⟩ := Option.bind_eq_some_iff.mp h
    refine sndE L env e g s σ H x s1 e1 W E _ fun v g1 H1 S1 W1 r1 => sndE L env o g1 s1 σ H1 y s2 e2 W1 (E.mono S1.le) _ fun u g2 H2 S2 W2 r2 => sndE L env i g2 s2 σ H2 z s3 e3 W2 ((E.mono S1.le).mono S2.le) _ fun w g3 H3 S3 W3 r3 => ?_
    simp only at h
    split at h
    · split at h
      · rename_i n k xs hx
        split at h
        · rename_i j hj
          cases h
          obtain ⟨a, vs, h1, h2, h3⟩ := W3.objL hx
          have := (r2.mono S3.le).at_ h1
          subst this
          cases r3
          have r1' := (r1.mono S2.le).mono S3.le
          obtain ⟨S4, W4⟩ := W3.write (b := C.bs) hx rfl h1 (o := .lst (vs.set j v)) (q := .lst (xs.set j x)) (h3.set r1' j)
          exact ⟨a, vs, _, j, rfl, rfl, h2, by rw [h3.length]; exact hj, q σ g3 _ (((S1.trans W W1 S2).trans W W2 S3).trans W W3 S4) W4 (((E.mono S1.le).mono S2.le).mono S3.le)⟩
        · cases h
      · cases h
    · cases h
  | .dput o k e => fun g s env σ H rs h W E D q => by
    simp only [exS] at h
    obtain ⟨⟨x, s1⟩, e1, h⟩ := Option.bind_eq_some_iff.mp h
    obtain ⟨⟨y, s2⟩, e2, h⟩ := Option.bind_eq_some_iff.mp h
    obtain ⟨⟨z, s3⟩, e3, h⟩ := Option.bind_eq_some_iff.mp h
    refine sndE L env e g s σ H x s1 e1 W E _ fun v g1 H1 S1 W1 r1 => sndE L env o g1 s1 σ H1 y s2 e2 W1 (E.mono S1.le) _ fun u g2 H2 S2 W2 r2 => sndE L env k g2 s2 σ H2 z s3 e3 W2 ((E.mono S1.le).mono S2.le) _ fun w g3 H3 S3 W3 r3 => ?_
    have r1' := (r1.mono S2.le).mono S3.le
    have S03 := (S1.trans W W1 S2).trans W W2 S3
    have E3 := ((E.mono S1.le).mono S2.le).mono S3.le
    simp only at h
    split at h
    · split at h
      · rename_i n kvs hx
        split at h
        · obtain ⟨k', hk, h⟩ := Option.map_eq_some_iff.mp h
          cases h
          obtain ⟨a, vs, h1, h2, h3⟩ := W3.objK hx
          have := (r2.mono S3.le).at_ h1
          subst this
          obtain ⟨S4, W4⟩ := W3.write (b := C.bs) hx rfl h1 (o := .dK (putK vs k' v)) (q := .dK (putD kvs k' x)) (h3.put k' r1')
          exact ⟨a, _, rfl, .inl ⟨vs, k', h2, r3.key hk, by rw [h3.length]; exact szl' (by assumption), rfl⟩, q σ g3 _ (S03.trans W W3 S4) W4 E3⟩
        · cases h
      · rename_i n kvs hx
        split at h
        · split at h
          · obtain ⟨k', hk, h⟩ := Option.map_eq_some_iff.mp h
            cases h
            obtain ⟨a, vs, h1, h2, h3⟩ := W3.objT hx
            have := (r2.mono S3.le).at_ h1
            subst this
            cases r3 with
            | @tup p ws ds hp rp =>
              have ew := rp.keys hk
              subst ew
              obtain ⟨S4, W4⟩ := W3.write (b := C.bs) hx rfl h1 (o := .dT (putK vs k' v)) (q := .dT (putD kvs k' x)) (h3.put k' r1')
              exact ⟨a, _, rfl, .inr ⟨vs, k', p, h2, rfl, W3.hT hp, by rw [h3.length]; exact szl' (by assumption), rfl⟩, q σ g3 _ (S03.trans W W3 S4) W4 E3⟩
          · cases h
        · cases h
      · cases h
    · cases h
  | .expr e => fun g s env σ H rs h W E D q => by
    simp only [exS] at h
    obtain ⟨⟨x, s1⟩, e1, h⟩ := Option.map_eq_some_iff.mp h
    cases h
    exact sndE L env e g s σ H x _ e1 W E _ fun v g1 H1 S1 W1 r1 => q σ g1 H1 S1 W1 (E.mono S1.le)
  | .ret e => fun g s env σ H rs h W E D q => by
    simp only [exS] at h
    obtain ⟨⟨x, s1⟩, e1, h⟩ := Option.map_eq_some_iff.mp h
    cases h
    exact sndE L env e g s σ H x _ e1 W E _ fun v g1 H1 S1 W1 r1 => q v g1 H1 S1 W1 r1
  | .ife t a b => fun g s env σ H rs h W E D q => by
    simp only [exS] at h
    obtain ⟨⟨x, s1⟩, e1, h⟩ := Option.bind_eq_some_iff.mp h
    refine sndT L env t g s σ H x s1 e1 W E _ fun g1 H1 S1 W1 => ?_
    cases x with
    | true =>
      rw [if_pos rfl]
      exact sndSs L a g1 s1 env σ H1 rs h W1 (E.mono S1.le) D (q.after W S1 W1)
    | false =>
      rw [if_neg Bool.false_ne_true]
      exact sndSs L b g1 s1 env σ H1 rs h W1 (E.mono S1.le) D (q.after W S1 W1)
  | .whl t b => while_go (fun env => sndT L env t) (sndSs L b) C.wf
  | .for_ t (.keys i) b => keys_go (sndSs L b)
  | .for_ t (.seq e) b => for_src L t (.seq e) b (sndSs L b) (fun _ => by simp) rfl (fun _ _ => rfl)
  | .for_ t (.rng1 e) b => for_src L t (.rng1 e) b (sndSs L b) (fun _ => by simp) rfl (fun _ _ => rfl)
  | .for_ t (.rng2 x y) b => for_src L t (.rng2 x y) b (sndSs L b) (fun _ => by simp) rfl (fun _ _ => rfl)
  | .for_ t (.zip x y) b => for_src L t (.zip x y) b (sndSs L b) (fun _ => by simp) rfl (fun _ _ => rfl)
  | .never => fun g s env σ H rs h W E D q => by simp [exS] at h
  | .pass => fun g s env σ H rs h W E D q => by
    cases h
    exact q σ g H .refl W E
  | .brk => fun g s env σ H rs h W E D q => by
    cases h
    exact q σ g H .refl W E
  | .cont => fun g s env σ H rs h W E D q => by
    cases h
    exact q σ g H .refl W E
theorem sndSs {C : Cc} {c : Rc} (L : Lk C c) : ∀ ss : Ss, OkS c.K C.bs (rdSs c ss) (exSs C ss)
  | .nil => fun g s env σ H rs h W E D q => by
    cases h
    exact q σ g H .refl W E
  | .cons st ss => fun g s env σ H rs h W E D q => by
    simp only [exSs] at h
    split at h
    · rename_i e1 s1 h1
      exact sndS L st g s env σ H _ h1 W E _ fun σ1 g1 H1 S1 W1 E1 => sndSs L ss g1 s1 e1 σ1 H1 rs h W1 E1 D (q.after W S1 W1)
    · rename_i r hr
      refine sndS L st g s env σ H rs h W E _ ?_
      cases rs with
      | nx e s' => exact absurd h (hr e s')
      | rt d s' => exact q
      | bk d s' => exact q
      | ct d s' => exact q
  | .frz i ss => fun g s env σ H rs h W E D q => by
    simp only [exSs] at h
    obtain ⟨⟨e1, s1⟩, h1, h⟩ := Option.bind_eq_some_iff.mp h
    obtain ⟨g1, S1, W1, E1⟩ := frz_ok h1 W E
    exact sndSs L ss g1 s1 e1 σ H rs h W1 E1 D (q.after W S1 W1)
end
end
end Fw

/-! Fw, part I: from the text to our syntax, rule by rule. -/
namespace Fw
open PySem PySem.Spec PyProof.Rows L2

/-! ### some rules that lack -/
theorem mul_one (l : Addr) (items : Array Value) (n : Nat) (dd : Option Addr) (sl : Array (Option Value)) (u : Tok) :
    Meets (Builtin.«tuple.__mul__» ⟨[.ref l, .int 1 u], []⟩) (fun _ R s => s.heap.get? l = some { cls := .type "tuple", dict := dd, data := .seq items n, slots := sl } ∧ R (.ok (.ret (Value.ref l))) s) :=
  .of_wp fun prog w A R s h => by
    obtain ⟨hp, g, d, tk, os⟩ := s
    obtain ⟨hl, h⟩ := h
    have f1 := AutoSeq1.idx_int
    wp_walk using wpAny_loadPart' hl
    repeat (first
      | (refine wpAny_ite_false (decide_eq_false (by decide)) ?_; wp_walk using wpAny_loadPart' hl)
      | (refine wpAny_ite_true (decide_eq_true (by simp)) ?_; wp_walk using wpAny_loadPart' hl))
    all_goals (first | exact ⟨_, rfl, h⟩ | skip)
section
variable {X : Cx} {k : Nat} {fn : Nat → List D → Sto → Option (D × Sto)} {ar : Nat → Nat} {pos p1 p2 p3 : Pos}
theorem op_rep1 : OpR X (binaryOp .Mult) (rRep1 X.K) := by
  intro pins s σ H x y v u Q I rx ry h
  obtain ⟨l, xs, rfl, rfl, hT, q⟩ := h
  cases rx
  obtain ⟨t, rfl⟩ := ry
  obtain ⟨its, r, ⟨⟨cls, dd, data, sl⟩, ho, hc, n, hd⟩, hs⟩ := I.tuple hT
  simp only at hc hd
  subst hc hd
  refine wpAny_binaryOp_repeat_ref (T := "tuple") (U := "int") (by decide) ⟨_, ho, rfl⟩ (fun s' => typeIs_int s' 1 t) noFill_tuple_mul F.fills_int_mul F.slot_int_rmul repeat_tuple F.slot_int_index.lookup
    (call_meets F.slot_int_rmul (typeIs_int s 1 t) F.entry_int_rmul (F.args_int_rmul_2 _ _) (int_rmul_tuple 1 t l its.toArray n dd sl) ⟨ho, rfl, ⟨_, ho, rfl⟩, ?_⟩)
  exact call_meets F.slot_tuple_mul ⟨_, ho, rfl⟩ F.entry_tuple_mul (F.args_tuple_mul_2 _ _) (mul_one l its.toArray n dd sl t) ⟨ho, ⟨.ref l, H, I, rfl, q⟩⟩
/-- a list or a tuple, gone through -/
theorem pi_seq {tg l : Expr} {tl : TE} (hl : PE X l tl) : PI X tg l (iSeq X.K tl) := by
  refine ⟨fun pins s σ H R I h => thn (hl.run pins s σ H _ I h) fun v s1 q0 => ?_⟩
  obtain ⟨x, H1, I1, r1, a, rfl, q1⟩ := q0
  cases r1
  have new : ∀ b ∈ [s1.heap.objs.size], FpOk X pins H1 b := fun b hb => by
    rw [List.mem_singleton.mp hb]
    exact I1.fpOk (Nat.le_refl _) (I1.hok.fresh (Nat.le_refl _))
  rcases q1 with ⟨⟨xs, hq⟩, q⟩ | ⟨⟨xs, hq⟩, q⟩
  · obtain ⟨its, _, pl, _⟩ := I1.list hq
    exact wpAny_pyIter_list pl.isList ⟨_, [s1.heap.objs.size], _, _, H1, rfl, I1.kept (t' := s1.toks) (fun _ _ e => Heap.get?_push_of_some _ e), turn_list a _, ⟨_, Heap.get?_push_size _ rfl, rfl, rfl⟩, new, q⟩
  · obtain ⟨its, _, pl, _⟩ := I1.tuple hq
    exact wpAny_pyIter_tuple (show s1.heap.IsTuple a its.toArray from pl) ⟨_, [s1.heap.objs.size], _, _, H1, rfl, I1.kept (t' := s1.toks) (fun _ _ e => Heap.get?_push_of_some _ e), turn_tuple a _, ⟨_, Heap.get?_push_size _ rfl, rfl, rfl⟩, new, q⟩

/-! ### operators -/
def opOf : Op → Operator
  | .add => .Add
  | .sub => .Sub
  | .mul => .Mult
  | .fdiv => .FloorDiv
  | .mod => .Mod
  | .pow => .Pow
  | .shl => .LShift
theorem o_bin : ∀ o : Op, OpR X (binaryOp (opOf o)) (rBin X.K o)
  | .add => op_add.or (op_add_str.or (op_catA.or op_cat))
  | .sub => op_sub
  | .mul => op_mul.or (op_repT.or op_rep1)
  | .fdiv => op_fdivN
  | .mod => op_modN
  | .pow => op_pow
  | .shl => op_shl
def cpOf : Cp → CmpOp
  | .eq => .Eq
  | .ne => .NotEq
  | .lt => .Lt
  | .le => .LtE
  | .gt => .Gt
  | .ge => .GtE
  | .isN => .Is
  | .notN => .IsNot
  | .isin => .In
theorem Room.u65 (hr : Room k X.A) : X.A.units + 65 < cLine := by have := hr.un; omega
theorem o_cmp (hr : Room k X.A) : ∀ o : Cp, OpR X (compareOp (cpOf o)) (rCmp X.K o)
  | .eq => op_eq
  | .ne => op_ne
  | .lt => op_lt
  | .le => op_le
  | .gt => op_gt
  | .ge => op_ge
  | .isN => op_isN
  | .notN => op_notN
  | .isin => op_in_seq.or (op_inD (Room.u65 hr))
theorem o_b1 (hc : X.calm = true) : (∀ f : B1, match f with
    | .len => CallR X (.builtin "len") (rB1 X.K .len)
    | .abs => CallR X (.builtin "abs") (rB1 X.K .abs)
    | .int => CallR X (.type "int") (rB1 X.K .int)
    | .bool => CallR X (.type "bool") (rB1 X.K .bool)
    | .sum => CallR X (.builtin "sum") (rB1 X.K .sum)
    | .tup => CallR X (.type "tuple") (rB1 X.K .tup)
    | .lst => CallR X (.type "list") (rB1 X.K .lst))
  | .len => call_len
  | .abs => call_abs
  | .int => call_int1
  | .bool => call_bool1
  | .sum => cr_sum hc
  | .tup => call_tuple_of
  | .lst => call_list_of

/-! ### expressions -/
variable {a b d e f : Expr} {es : List Expr} {A B C : E} {Es' : Es}
theorem d_var {i : Nat} {x : Str} (hN : X.N[i]? = some x) (hv : Vis X.env.scope x := by first | exact Or.inl rfl | exact Or.inr (Or.inl rfl) | exact Or.inr (Or.inr rfl)) (hd : (x == ("__debug__" : Str)) = false := by decide) (hcd : (x == ("__classdict__" : Str)) = false := by decide) : PE X (.Name x pos) (rdE ⟨X.K, fn, ar⟩ (.var i)) := pe_var hN hv hd hcd
theorem d_none {j : Nat} : PE X (.Constant .none j pos) (rdE ⟨X.K, fn, ar⟩ .non) := pe_non
theorem d_bl {j : Nat} {x : Bool} : PE X (.Constant (.bool x) j pos) (rdE ⟨X.K, fn, ar⟩ (.bl x)) := pe_bl
theorem d_int {j : Nat} {x : Int} : PE X (.Constant (.int x) j pos) (rdE ⟨X.K, fn, ar⟩ (.int x)) := pe_int
theorem d_str {j : Nat} {x : Str} : PE X (.Constant (.str x) j pos) (rdE ⟨X.K, fn, ar⟩ (.str x)) := pe_str
theorem d_nil : PA X [] (rdEs ⟨X.K, fn, ar⟩ .nil) := pa_nil
theorem d_cons (h : PE X e (rdE ⟨X.K, fn, ar⟩ A)) (h2 : PA X es (rdEs ⟨X.K, fn, ar⟩ Es')) (hs : starEach (e :: es) X.env = (false, eval e X.env) :: starEach es X.env := by rfl) : PA X (e :: es) (rdEs ⟨X.K, fn, ar⟩ (.cons A Es')) := pa_cons h h2 hs
theorem d_tup {j : Nat} (h : PA X es (rdEs ⟨X.K, fn, ar⟩ Es')) : PE X (.Tuple es j pos) (rdE ⟨X.K, fn, ar⟩ (.tup Es')) := pe_tup h
theorem d_lst (h : PA X es (rdEs ⟨X.K, fn, ar⟩ Es')) : PE X (.List es pos) (rdE ⟨X.K, fn, ar⟩ (.lst Es')) := pe_lst h
theorem d_newL (h : PA X es (rdEs ⟨X.K, fn, ar⟩ Es')) : PE X (.List es pos) (rdE ⟨X.K, fn, ar⟩ (.newL Es')) := pe_lst h
theorem d_newK : PE X (.Dict [] [] pos) (rdE ⟨X.K, fn, ar⟩ .newK) := pe_dnewK
theorem d_newT : PE X (.Dict [] [] pos) (rdE ⟨X.K, fn, ar⟩ .newT) := pe_dnewT
theorem d_ds0 : PPs X pos [] [] (rdDs ⟨X.K, fn, ar⟩ [] .nil) := pps_nil
theorem d_ds {x : Str} {j : Nat} {ks : List (Option Expr)} {vs : List Expr} {kk : List Str} (h : PE X e (rdE ⟨X.K, fn, ar⟩ A)) (h2 : PPs X pos ks vs (rdDs ⟨X.K, fn, ar⟩ kk Es')) : PPs X pos (some (.Constant (.str x) j p1) :: ks) (e :: vs) (rdDs ⟨X.K, fn, ar⟩ (x :: kk) (.cons A Es')) := pps_cons pe_str h h2
theorem d_disp {ks : List (Option Expr)} {vs : List Expr} {kk : List Str} (h : PPs X pos ks vs (rdDs ⟨X.K, fn, ar⟩ kk Es')) (hall : ks.all (·.isSome) = true := by rfl) (hl : ks.length = vs.length := by rfl) (h0 : ks ≠ [] := by intro z; cases z) (h15 : ks.length ≤ 15 := by decide) :
    PE X (.Dict ks vs pos) (rdE ⟨X.K, fn, ar⟩ (.disp kk Es')) := pe_disp h hall hl h0 h15
theorem d_bin {o : Op} {op : Operator} (ho : op = opOf o) (ha : PE X a (rdE ⟨X.K, fn, ar⟩ A)) (hb : PE X b (rdE ⟨X.K, fn, ar⟩ B)) : PE X (.BinOp a op b pos) (rdE ⟨X.K, fn, ar⟩ (.bin o A B)) := by
  subst ho
  exact pe_op (o_bin o) ha hb
theorem d_cmp {o : Cp} {op : CmpOp} (hr : Room k X.A) (ho : op = cpOf o) (ha : PE X a (rdE ⟨X.K, fn, ar⟩ A)) (hb : PE X b (rdE ⟨X.K, fn, ar⟩ B)) (hm : behindInMarks op b = false := by rfl) : PE X (.Compare a [op] [b] pos) (rdE ⟨X.K, fn, ar⟩ (.cmp o A B)) := by
  subst ho
  exact pe_cmpR (o_cmp hr o) ha hb hm
theorem dt_cmp {o : Cp} {op : CmpOp} (hr : Room k X.A) (ho : op = cpOf o) (ha : PE X a (rdE ⟨X.K, fn, ar⟩ A)) (hb : PE X b (rdE ⟨X.K, fn, ar⟩ B)) (hm : behindInMarks op b = false := by rfl) : PT X (.Compare a [op] [b] pos) (rdT ⟨X.K, fn, ar⟩ (.val (.cmp o A B))) := by
  subst ho
  exact pt_cmpR (o_cmp hr o) ha hb hm
theorem d_chn {o o' : Cp} {op op' : CmpOp} (hr : Room k X.A) (ho : op = cpOf o) (ho' : op' = cpOf o') (ha : PE X a (rdE ⟨X.K, fn, ar⟩ A)) (hb : PE X b (rdE ⟨X.K, fn, ar⟩ B)) (hd : PE X d (rdE ⟨X.K, fn, ar⟩ C)) (hm : lastMarks [op, op'] [b, d] = false := by with_unfolding_all rfl) :
    PE X (.Compare a [op, op'] [b, d] pos) (rdE ⟨X.K, fn, ar⟩ (.chn o o' A B C)) := by
  subst ho ho'
  exact pe_chain (o_cmp hr o) (o_cmp hr o') ha hb hd hm
theorem dt_chn {o o' : Cp} {op op' : CmpOp} (hr : Room k X.A) (ho : op = cpOf o) (ho' : op' = cpOf o') (ha : PE X a (rdE ⟨X.K, fn, ar⟩ A)) (hb : PE X b (rdE ⟨X.K, fn, ar⟩ B)) (hd : PE X d (rdE ⟨X.K, fn, ar⟩ C)) (hm : lastMarks [op, op'] [b, d] = false := by with_unfolding_all rfl) :
    PT X (.Compare a [op, op'] [b, d] pos) (rdT ⟨X.K, fn, ar⟩ (.val (.chn o o' A B C))) := by
  subst ho ho'
  exact pt_chain (o_cmp hr o) (o_cmp hr o') ha hb hd hm
theorem d_not (ha : PE X a (rdE ⟨X.K, fn, ar⟩ A)) : PE X (.UnaryOp .Not a pos) (rdE ⟨X.K, fn, ar⟩ (.not A)) := pe_not ha
theorem d_one {op : BoolOp} (ha : PE X a (rdE ⟨X.K, fn, ar⟩ A)) : PE X (.BoolOp op [a] pos) (rdE ⟨X.K, fn, ar⟩ A) := pe_one ha
theorem d_and {rest : List Expr} (ha : PE X a (rdE ⟨X.K, fn, ar⟩ A)) (hb : PE X (.BoolOp .And (b :: rest) pos) (rdE ⟨X.K, fn, ar⟩ B)) : PE X (.BoolOp .And (a :: b :: rest) pos) (rdE ⟨X.K, fn, ar⟩ (.and A B)) := pe_and ha hb
theorem d_or {rest : List Expr} (ha : PE X a (rdE ⟨X.K, fn, ar⟩ A)) (hb : PE X (.BoolOp .Or (b :: rest) pos) (rdE ⟨X.K, fn, ar⟩ B)) : PE X (.BoolOp .Or (a :: b :: rest) pos) (rdE ⟨X.K, fn, ar⟩ (.or A B)) := pe_or ha hb
theorem d_ife {t : T} (ht : PT X d (rdT ⟨X.K, fn, ar⟩ t)) (ha : PE X a (rdE ⟨X.K, fn, ar⟩ A)) (hb : PE X b (rdE ⟨X.K, fn, ar⟩ B)) : PE X (.IfExp d a b pos) (rdE ⟨X.K, fn, ar⟩ (.ife t A B)) := pe_ifExp ht ha hb
theorem d_idx (ha : PE X a (rdE ⟨X.K, fn, ar⟩ A)) (hb : PE X b (rdE ⟨X.K, fn, ar⟩ B)) (hs : PlainIx b := by intro _ _; rfl) : PE X (.Subscript a b pos) (rdE ⟨X.K, fn, ar⟩ (.idx A B)) := pe_ix ix_seq ha hb hs
theorem d_dget (hr : Room k X.A) (ha : PE X a (rdE ⟨X.K, fn, ar⟩ A)) (hb : PE X b (rdE ⟨X.K, fn, ar⟩ B)) (hs : NoSl b := by intro _ _; rfl) : PE X (.Subscript a b pos) (rdE ⟨X.K, fn, ar⟩ (.dget A B)) := pe_dget (hu_of hr) ha hb hs
theorem dt_dnin (hr : Room k X.A) (ha : PE X a (rdE ⟨X.K, fn, ar⟩ A)) (hb : PE X b (rdE ⟨X.K, fn, ar⟩ B)) (hm : behindInMarks .NotIn b = false := by rfl) : PT X (.Compare a [.NotIn] [b] pos) (rdT ⟨X.K, fn, ar⟩ (.val (.dnin A B))) := pt_cmp (pc_dnotin (hu_of hr) ha hb) hm
theorem dt_din (hr : Room k X.A) (ha : PE X a (rdE ⟨X.K, fn, ar⟩ A)) (hb : PE X b (rdE ⟨X.K, fn, ar⟩ B)) (hm : behindInMarks .In b = false := by rfl) : PT X (.Compare a [.In] [b] pos) (rdT ⟨X.K, fn, ar⟩ (.val (.din A B))) := pt_cmp (pc_din (hu_of hr) ha hb) hm
theorem d_o0 : PO X none (rdO ⟨X.K, fn, ar⟩ .none) := po_none
theorem d_o1 (h : PE X e (rdE ⟨X.K, fn, ar⟩ A)) : PO X (some e) (rdO ⟨X.K, fn, ar⟩ (.some A)) := po_some h
theorem d_slc {lo hi : Option Expr} {L U : Oe} (ha : PE X a (rdE ⟨X.K, fn, ar⟩ A)) (hl : PO X lo (rdO ⟨X.K, fn, ar⟩ L)) (hh : PO X hi (rdO ⟨X.K, fn, ar⟩ U)) : PE X (.Subscript a (.Slice lo hi none p2) pos) (rdE ⟨X.K, fn, ar⟩ (.slc A L U)) := pe_slice (sl_list.or sl_tupA) ha hl hh

/-! ### calls -/
/-- a def that is called by its name -/
def Ca (P : Program) (w : World) (K : PySem.W.Frag) (mg : Str → Option Value) (base : Heap) (k : Nat) (x : Str) (sp : Sp) : Prop :=
  ∃ (f : Addr) (fd : FuncData) (ps : List Str), FnOk P w K mg base CX0 k f fd ps sp ∧ mg x = some (.ref f) ∧ PySem.W.keepIn K (.ref f) = true ∧ Binds K fd ps []
/-- .. with keywords -/
def Ck (P : Program) (w : World) (K : PySem.W.Frag) (mg : Str → Option Value) (base : Heap) (k : Nat) (x : Str) (sp : Sp) (ks : List Str) (na : Nat) (perm : List Nat) : Prop :=
  ∃ (f : Addr) (fd : FuncData) (ps : List Str) (g : List Value → List Value → List Value), FnOk P w K mg base CX0 k f fd ps sp ∧ mg x = some (.ref f) ∧ PySem.W.keepIn K (.ref f) = true ∧ KBinds K fd ps ks g (permL .non na perm)
theorem vals_get {vs : List V} {us : List Value} (r : Vals vs us) : ∀ j : Nat, RelV (vs.getD j .non) (us.getD j .none) := by
  induction r with
  | nil => intro j; rw [List.getD_nil, List.getD_nil]; rfl
  | cons h _ ih =>
    intro j
    cases j with
    | zero => exact h
    | succ j => rw [List.getD_cons_succ, List.getD_cons_succ]; exact ih j
theorem vals_app {vs zs : List V} {us ws : List Value} (r : Vals vs us) (r' : Vals zs ws) : Vals (vs ++ zs) (us ++ ws) := by
  induction r with
  | nil => exact r'
  | cons h _ ih => exact .cons h ih
theorem vals_map {vs : List V} {us : List Value} (r : Vals vs us) : ∀ perm : List Nat, Vals (perm.map fun j => vs.getD j .non) (perm.map fun j => us.getD j .none)
  | [] => .nil
  | j :: t => .cons (vals_get r j) (vals_map r t)
theorem kb_of {K : PySem.W.Frag} {y qual : Str} {st : Stmt} {f : Addr} {fd : FuncData} {ps ks : List Str} {na : Nat} {perm : List Nat} (F : Fun K y qual st f fd) (hp : ps.length ≠ 0)
    (h : ∀ (kV doc pm : Value) (an : Option Addr) (cdv ct : Value) (us ws : List Value), us.length = na → na + ws.length = perm.length → bindArgs (PySem.W.fnOf y qual (defArgs st) (defBody st) (defScope st) .none kV doc pm an cdv ct) ⟨us, ks.zip ws⟩ = pure (ps.zip (perm.map fun j => (us ++ ws).getD j .none))) :
    KBinds K fd ps ks (permL .none na perm) (permL .non na perm) := by
  obtain ⟨oc, od, kV, doc, pm, an, cdv, ct, osl, rfl, lk, hcd⟩ := F.ex
  refine ⟨fun s us ws hK hl => ?_, fun {vs us zs ws} r r' => ?_⟩
  · unfold permL at hl ⊢
    by_cases hc : us.length = na ∧ na + ws.length = perm.length
    · rw [if_pos hc]
      exact .of_eq (h kV doc pm an cdv ct us ws hc.1 hc.2)
    · rw [if_neg hc] at hl
      exact absurd hl.symm hp
  · unfold permL
    rw [r.length, r'.length]
    by_cases hc : us.length = na ∧ na + ws.length = perm.length
    · rw [if_pos hc, if_pos hc]; exact vals_map (vals_app r r') perm
    · rw [if_neg hc, if_neg hc]; exact .nil
variable {x : Str} {i : Nat} {pp : Bool}
theorem d_call (h : Ca X.prog X.w X.K X.mg X.base k x (SpF X.K (ar i) (fn i))) (hr : Room k X.A) (hg : Gl X x) (ha : PA X (e :: es) (rdEs ⟨X.K, fn, ar⟩ Es')) (hdb : (x == ("__debug__" : Str)) = false := by decide) (he : starEach (e :: es) X.env = (false, eval e X.env) :: starEach es X.env := by rfl) (hpl : (backTo pos (starEach es X.env)).any (·.1) = false := by rfl) :
    PE X (.Call (.Name x p1) (e :: es) [] pos) (rdE ⟨X.K, fn, ar⟩ (.call pp i Es')) := by
  obtain ⟨f, fd, ps, G, hm, hk, hb⟩ := h
  exact pe_call G hr hg hm hk hb .nil pass0 ha hdb he hpl
theorem d_call0 (h : Ca X.prog X.w X.K X.mg X.base k x (SpF X.K (ar i) (fn i))) (hr : Room k X.A) (hg : Gl X x) (hdb : (x == ("__debug__" : Str)) = false := by decide) : PE X (.Call (.Name x p1) [] [] pos) (rdE ⟨X.K, fn, ar⟩ (.call pp i .nil)) := by
  obtain ⟨f, fd, ps, G, hm, hk, hb⟩ := h
  exact pe_call0 G hr hg hm hk hb .nil pass0 hdb
theorem d_k0 : PK X [] (rdEs ⟨X.K, fn, ar⟩ .nil) := pk_nil
theorem d_k {nm : Option Str} {kws : List Keyword} (h : PE X e (rdE ⟨X.K, fn, ar⟩ A)) (h2 : PK X kws (rdEs ⟨X.K, fn, ar⟩ Es')) : PK X (⟨nm, e, p2⟩ :: kws) (rdEs ⟨X.K, fn, ar⟩ (.cons A Es')) := pk_cons h h2
theorem d_callK {ks : List Str} {perm : List Nat} {kws : List Keyword} {Ks' : Es} (h : Ck X.prog X.w X.K X.mg X.base k x (SpF X.K (ar i) (fn i)) ks Es'.n perm) (hr : Room k X.A) (hg : Gl X x) (ha : PA X (e :: es) (rdEs ⟨X.K, fn, ar⟩ Es')) (hkw : PK X kws (rdEs ⟨X.K, fn, ar⟩ Ks'))
    (hall : (backToKw pos (keywordEach kws X.env)).all (·.1.isSome) = true := by rfl) (hks : (backToKw pos (keywordEach kws X.env)).filterMap (·.1) = ks := by rfl)
    (hdb : (x == ("__debug__" : Str)) = false := by decide) (he : starEach (e :: es) X.env = (false, eval e X.env) :: starEach es X.env := by rfl)
    (hpl : ((backTo pos (starEach (e :: es) X.env)).any (·.1) || (backToKw pos (keywordEach kws X.env)).any (·.1.isNone)) = false := by rfl) :
    PE X (.Call (.Name x p1) (e :: es) kws pos) (rdE ⟨X.K, fn, ar⟩ (.callK pp i perm Es' Ks')) := by
  obtain ⟨f, fd, ps, g, G, hm, hk, hb⟩ := h
  exact pe_callK G hr hg hm hk hb pass0 ha hkw hall hks hdb he hpl
/-- keywords alone -/
theorem d_callK0 {ks : List Str} {perm : List Nat} {kws : List Keyword} {Ks' : Es} (h : Ck X.prog X.w X.K X.mg X.base k x (SpF X.K (ar i) (fn i)) ks 0 perm) (hr : Room k X.A) (hg : Gl X x) (hkw : PK X kws (rdEs ⟨X.K, fn, ar⟩ Ks'))
    (hall : (backToKw pos (keywordEach kws X.env)).all (·.1.isSome) = true := by rfl) (hks : (backToKw pos (keywordEach kws X.env)).filterMap (·.1) = ks := by rfl) (hdb : (x == ("__debug__" : Str)) = false := by decide)
    (hpl : ((backTo pos (starEach [] X.env)).any (·.1) || (backToKw pos (keywordEach kws X.env)).any (·.1.isNone)) = false := by rfl) :
    PE X (.Call (.Name x p1) [] kws pos) (rdE ⟨X.K, fn, ar⟩ (.callK pp i perm .nil Ks')) := by
  obtain ⟨f, fd, ps, g, G, hm, hk, hb⟩ := h
  refine ⟨fun pins s σ H Q I h => wpAny_Call_Name_kw (ld_glob I hg hm ?_ hdb)⟩
  refine PySem.W.callWith_KW0 (h₀ := X.base) I.ok.mod.kin hk hall (thn (hkw.run pos pins s σ H _ I h) fun ws s2 ⟨zs, H2, I2, rz, q2⟩ => ⟨I2.kIn, ?_⟩) hpl
  rw [hks]
  exact run_fnk (us := []) (vs := []) G hr hb pass0 I2 .nil rz q2

/-! ### built-in functions and methods -/
theorem d_len (hg : Gl X "len") (hm : X.mg "len" = none) (h : PE X e (rdE ⟨X.K, fn, ar⟩ A)) (hs : starEach [e] X.env = (false, eval e X.env) :: starEach [] X.env := by rfl) : PE X (.Call (.Name "len" p1) [e] [] pos) (rdE ⟨X.K, fn, ar⟩ (.b1 .len A)) := pe_callB call_len hg hm PySem.boot_len (pa_cons h pa_nil hs) (he := hs)
theorem d_abs (hg : Gl X "abs") (hm : X.mg "abs" = none) (h : PE X e (rdE ⟨X.K, fn, ar⟩ A)) (hs : starEach [e] X.env = (false, eval e X.env) :: starEach [] X.env := by rfl) : PE X (.Call (.Name "abs" p1) [e] [] pos) (rdE ⟨X.K, fn, ar⟩ (.b1 .abs A)) := pe_callB call_abs hg hm (by decide +kernel) (pa_cons h pa_nil hs) (he := hs)
theorem d_toInt (hg : Gl X "int") (hm : X.mg "int" = none) (h : PE X e (rdE ⟨X.K, fn, ar⟩ A)) (hs : starEach [e] X.env = (false, eval e X.env) :: starEach [] X.env := by rfl) : PE X (.Call (.Name "int" p1) [e] [] pos) (rdE ⟨X.K, fn, ar⟩ (.b1 .int A)) := pe_callTy call_int1 hg hm (by decide +kernel) (pa_cons h pa_nil hs) (he := hs)
theorem d_toBool (hg : Gl X "bool") (hm : X.mg "bool" = none) (h : PE X e (rdE ⟨X.K, fn, ar⟩ A)) (hs : starEach [e] X.env = (false, eval e X.env) :: starEach [] X.env := by rfl) : PE X (.Call (.Name "bool" p1) [e] [] pos) (rdE ⟨X.K, fn, ar⟩ (.b1 .bool A)) := pe_callTy call_bool1 hg hm (by decide +kernel) (pa_cons h pa_nil hs) (he := hs)
theorem d_sum (hc : X.calm = true) (hg : Gl X "sum") (hm : X.mg "sum" = none) (h : PE X e (rdE ⟨X.K, fn, ar⟩ A)) (hs : starEach [e] X.env = (false, eval e X.env) :: starEach [] X.env := by rfl) : PE X (.Call (.Name "sum" p1) [e] [] pos) (rdE ⟨X.K, fn, ar⟩ (.b1 .sum A)) := pe_callB (cr_sum hc) hg hm (by decide +kernel) (pa_cons h pa_nil hs) (he := hs)
theorem d_toTup (hg : Gl X "tuple") (hm : X.mg "tuple" = none) (h : PE X e (rdE ⟨X.K, fn, ar⟩ A)) (hs : starEach [e] X.env = (false, eval e X.env) :: starEach [] X.env := by rfl) : PE X (.Call (.Name "tuple" p1) [e] [] pos) (rdE ⟨X.K, fn, ar⟩ (.b1 .tup A)) := pe_callTy call_tuple_of hg hm (by decide +kernel) (pa_cons h pa_nil hs) (he := hs)
theorem d_toLst (hg : Gl X "list") (hm : X.mg "list" = none) (h : PE X e (rdE ⟨X.K, fn, ar⟩ A)) (hs : starEach [e] X.env = (false, eval e X.env) :: starEach [] X.env := by rfl) : PE X (.Call (.Name "list" p1) [e] [] pos) (rdE ⟨X.K, fn, ar⟩ (.b1 .lst A)) := pe_callTy call_list_of hg hm (by decide +kernel) (pa_cons h pa_nil hs) (he := hs)
theorem d_newLst (hg : Gl X "list") (hm : X.mg "list" = none) (h : PE X e (rdE ⟨X.K, fn, ar⟩ A)) (hs : starEach [e] X.env = (false, eval e X.env) :: starEach [] X.env := by rfl) : PE X (.Call (.Name "list" p1) [e] [] pos) (rdE ⟨X.K, fn, ar⟩ (.newLst A)) := pe_callTy call_list_of hg hm (by decide +kernel) (pa_cons h pa_nil hs) (he := hs)
theorem d_tupRg (hc : X.calm = true) (hg : Gl X "tuple") (hm : X.mg "tuple" = none) (hg2 : Gl X "range") (hm2 : X.mg "range" = none) (h : PE X e (rdE ⟨X.K, fn, ar⟩ A)) (hs : starEach [e] X.env = (false, eval e X.env) :: starEach [] X.env := by rfl) :
    PE X (.Call (.Name "tuple" p1) [.Call (.Name "range" p2) [e] [] p3] [] pos) (rdE ⟨X.K, fn, ar⟩ (.tupRg A)) := pe_tupRg hc hg hm (prg_1 hg2 hm2 h hs)
theorem d_max2 (hc : X.calm = true) (hg : Gl X "max") (hm : X.mg "max" = none) (h : PE X a (rdE ⟨X.K, fn, ar⟩ A)) (h2 : PE X b (rdE ⟨X.K, fn, ar⟩ B)) (hs : starEach [a, b] X.env = (false, eval a X.env) :: starEach [b] X.env := by rfl) (hs2 : starEach [b] X.env = (false, eval b X.env) :: starEach [] X.env := by rfl) (hpl : (backTo pos (starEach [b] X.env)).any (·.1) = false := by rfl) :
    PE X (.Call (.Name "max" p1) [a, b] [] pos) (rdE ⟨X.K, fn, ar⟩ (.max2 A B)) := pe_callB (call_max2 hc) hg hm (by decide +kernel) (pa_cons h (pa_cons h2 pa_nil hs2) hs) (he := hs) (hpl := hpl)
theorem d_isi {t : Ty} {y : Str} (hg : Gl X "isinstance") (hm : X.mg "isinstance" = none) (hgy : Gl X y) (hmy : X.mg y = none) (hy : bootBuiltins y = some (.type (tyN t))) (h : PE X e (rdE ⟨X.K, fn, ar⟩ A)) (hny : y ≠ "__name__" := by decide) (hdy : (y == ("__debug__" : Str)) = false := by decide)
    (hs : starEach [e, .Name y p2] X.env = (false, eval e X.env) :: starEach [.Name y p2] X.env := by rfl) : PE X (.Call (.Name "isinstance" p1) [e, .Name y p2] [] pos) (rdE ⟨X.K, fn, ar⟩ (.isI A t)) :=
  pe_callB call_isi hg hm (by decide +kernel) (pa_cons h (pa_cons (pe_bltn hgy hmy hy (show RelV (.ty (tyN t)) (.type (tyN t)) from rfl) hny hdy) pa_nil) hs) (he := hs)
theorem d_join (h : PE X a (rdE ⟨X.K, fn, ar⟩ A)) (h2 : PE X e (rdE ⟨X.K, fn, ar⟩ B)) (hs : starEach [e] X.env = [(false, eval e X.env)] := by rfl) (hb : attributeBase a "join" X.env (eval a X.env) = eval a X.env := by rfl) (hl : (p1.endLine == pos.line) = true := by rfl) : PE X (.Call (.Attribute a "join" p1) [e] [] pos) (rdE ⟨X.K, fn, ar⟩ (.join A B)) := pe_join h h2 hs hb hl
theorem d_pop (h : PE X a (rdE ⟨X.K, fn, ar⟩ A)) (hb : attributeBase a "pop" X.env (eval a X.env) = eval a X.env := by rfl) (hl : (p1.endLine == pos.line) = true := by rfl) : PE X (.Call (.Attribute a "pop" p1) [] [] pos) (rdE ⟨X.K, fn, ar⟩ (.pop A)) := pe_bm0 PySem.F.plainAttrs_list PySem.F.slot_list_pop PySem.F.type_list_pop mt_pop h hb hl
theorem d_popAt (h : PE X a (rdE ⟨X.K, fn, ar⟩ A)) (h2 : PE X e (rdE ⟨X.K, fn, ar⟩ B)) (hs : starEach [e] X.env = (false, eval e X.env) :: starEach [] X.env := by rfl) (hb : attributeBase a "pop" X.env (eval a X.env) = eval a X.env := by rfl) (hl : (p1.endLine == pos.line) = true := by rfl)
    (hf : ((backTo pos (starEach [e] X.env)).all (fun x => !x.1) && (backToKw pos (keywordEach [] X.env)).all (fun x => x.1.isSome) && decide (([e] : List Expr).length + ([] : List Keyword).length + (if ([] : List Keyword).isEmpty then 0 else 1) < 30)) = true := by rfl) : PE X (.Call (.Attribute a "pop" p1) [e] [] pos) (rdE ⟨X.K, fn, ar⟩ (.popAt A B)) :=
  pe_bm PySem.F.plainAttrs_list PySem.F.slot_list_pop PySem.F.type_list_pop mt_popAt h (pa_cons h2 pa_nil hs) hb hf hl hs
theorem d_app (h : PE X a (rdE ⟨X.K, fn, ar⟩ A)) (h2 : PE X e (rdE ⟨X.K, fn, ar⟩ B)) (hs : starEach [e] X.env = (false, eval e X.env) :: starEach [] X.env := by rfl) (hb : attributeBase a "append" X.env (eval a X.env) = eval a X.env := by rfl) (hl : (p1.endLine == pos.line) = true := by rfl)
    (hf : ((backTo pos (starEach [e] X.env)).all (fun x => !x.1) && (backToKw pos (keywordEach [] X.env)).all (fun x => x.1.isSome) && decide (([e] : List Expr).length + ([] : List Keyword).length + (if ([] : List Keyword).isEmpty then 0 else 1) < 30)) = true := by rfl) : PE X (.Call (.Attribute a "append" p1) [e] [] pos) (rdE ⟨X.K, fn, ar⟩ (.app A B)) :=
  pe_bm PySem.F.plainAttrs_list PySem.F.slot_list_append PySem.F.type_list_append mt_append h (pa_cons h2 pa_nil hs) hb hf hl hs
theorem d_ext (h : PE X a (rdE ⟨X.K, fn, ar⟩ A)) (h2 : PE X e (rdE ⟨X.K, fn, ar⟩ B)) (hs : starEach [e] X.env = (false, eval e X.env) :: starEach [] X.env := by rfl) (hb : attributeBase a "extend" X.env (eval a X.env) = eval a X.env := by rfl) (hl : (p1.endLine == pos.line) = true := by rfl)
    (hf : ((backTo pos (starEach [e] X.env)).all (fun x => !x.1) && (backToKw pos (keywordEach [] X.env)).all (fun x => x.1.isSome) && decide (([e] : List Expr).length + ([] : List Keyword).length + (if ([] : List Keyword).isEmpty then 0 else 1) < 30)) = true := by rfl) : PE X (.Call (.Attribute a "extend" p1) [e] [] pos) (rdE ⟨X.K, fn, ar⟩ (.ext A B)) :=
  pe_bm PySem.F.plainAttrs_list PySem.F.slot_list_extend PySem.F.type_list_extend mt_extend h (pa_cons h2 pa_nil hs) hb hf hl hs

/-! ### tests -/
variable {t u : T}
theorem dt_tru (h : PE X e (rdE ⟨X.K, fn, ar⟩ A)) (he : ∀ whole, isTrue e X.env whole = (do let v ← whole; standAt e.pos; holding [v] (truthy v)) := by intro _; rfl) : PT X e (rdT ⟨X.K, fn, ar⟩ (.tru A)) := pt_truth h he
theorem dt_not (h : PT X e (rdT ⟨X.K, fn, ar⟩ t)) : PT X (.UnaryOp .Not e pos) (rdT ⟨X.K, fn, ar⟩ (.not t)) := pt_not h
theorem dw_and1 (h : PT X e (rdT ⟨X.K, fn, ar⟩ t)) : PW X (.BoolOp .And [e] pos) (rdT ⟨X.K, fn, ar⟩ t) := pw_and1 h
theorem dw_or1 (h : PT X e (rdT ⟨X.K, fn, ar⟩ t)) : PW X (.BoolOp .Or [e] pos) (rdT ⟨X.K, fn, ar⟩ t) := pw_or1 h
theorem dw_and {rest : List Expr} (h : PT X a (rdT ⟨X.K, fn, ar⟩ t)) (h2 : PW X (.BoolOp .And (b :: rest) pos) (rdT ⟨X.K, fn, ar⟩ u)) : PW X (.BoolOp .And (a :: b :: rest) pos) (rdT ⟨X.K, fn, ar⟩ (.and t u)) := pw_and h h2
theorem dw_or {rest : List Expr} (h : PT X a (rdT ⟨X.K, fn, ar⟩ t)) (h2 : PW X (.BoolOp .Or (b :: rest) pos) (rdT ⟨X.K, fn, ar⟩ u)) : PW X (.BoolOp .Or (a :: b :: rest) pos) (rdT ⟨X.K, fn, ar⟩ (.or t u)) := pw_or h h2
theorem dt_bop (h : PW X e (rdT ⟨X.K, fn, ar⟩ t)) : PT X e (rdT ⟨X.K, fn, ar⟩ t) := h.pt

/-! ### what is gone through -/
variable {tg : Expr} {J : It}
theorem di_seq (h : PE X e (rdE ⟨X.K, fn, ar⟩ A)) : PI X tg e (rdI ⟨X.K, fn, ar⟩ (.seq A)) := pi_seq h
theorem di_rng1 (hg : Gl X "range") (hm : X.mg "range" = none) (h : PE X e (rdE ⟨X.K, fn, ar⟩ A)) (hs : starEach [e] X.env = [(false, eval e X.env)] := by rfl) : PI X tg (.Call (.Name "range" p1) [e] [] pos) (rdI ⟨X.K, fn, ar⟩ (.rng1 A)) := pi_range1 hg hm (pa_cons h pa_nil hs) hs
theorem di_zip {kk : Nat} {elts : List Expr} (hg : Gl X "zip") (hm : X.mg "zip" = none) (h : PE X a (rdE ⟨X.K, fn, ar⟩ A)) (h2 : PE X b (rdE ⟨X.K, fn, ar⟩ B)) (hs : starEach [a, b] X.env = (false, eval a X.env) :: starEach [b] X.env := by rfl) (hs2 : starEach [b] X.env = (false, eval b X.env) :: starEach [] X.env := by rfl) (hpl : (backTo pos (starEach [b] X.env)).any (·.1) = false := by rfl) :
    PI X (.Tuple elts kk p2) (.Call (.Name "zip" p1) [a, b] [] pos) (rdI ⟨X.K, fn, ar⟩ (.zip A B)) := RZ.pi_zipA hg hm (pa_cons h (pa_cons h2 pa_nil hs2) hs) hs hpl

/-! ### targets -/
theorem dg_name {i : Nat} {x : Str} (hN : X.N.Nodup) (hi : X.N[i]? = some x) (hx : Loc X.env.scope x) (hf : X.fn x = true ∨ X.env.scope.names.lookup x = some .local := by first | exact .inl rfl | exact .inr rfl) : PG X (.Name x pos) (rdG X.K (.name i)) := pg_name hN hi hx hf
theorem dg_nil : PGs X [] (rdGs X.K .nil) := pgs_nil
theorem dg_cons {g : G} {gs : Gs} (h : PG X e (rdG X.K g)) (h2 : PGs X es (rdGs X.K gs)) (hs : (assignEach (e :: es) X.env).map (·.2) = assign e X.env :: (assignEach es X.env).map (·.2) := by rfl) : PGs X (e :: es) (rdGs X.K (.cons g gs)) := pgs_cons h h2 hs
theorem dg_tup {kk : Nat} {gs : Gs} (hc : X.calm = true) (h : PGs X es (rdGs X.K gs)) (hn : (assignEach es X.env).length = gs.n := by rfl) (hst : (assignEach es X.env).findIdx? (·.1) = none := by rfl) : PG X (.Tuple es kk pos) (rdG X.K (.tup gs)) := pg_tup hc h hn hst

/-! ### comprehensions -/
theorem dts_nil : PTs X [] (rdT ⟨X.K, fn, ar⟩ .yes) := pts_nil
theorem dts_one (h : PT X e (rdT ⟨X.K, fn, ar⟩ t)) : PTs X [e] (rdT ⟨X.K, fn, ar⟩ t) := pts_one h
section
variable {elt iter : Expr} {ifs : List Expr} {scope : Scope} {g : G} {spos py : Pos} {y : Str}
theorem d_lc (own : List (Str × Nat)) (hc : X.calm = true) (hN : X.N.Nodup) (ok : BlkOk X.N X.env.scope scope own) (hi : PI X tg iter (rdI ⟨X.K, fn, ar⟩ J))
    (hg : ∀ (s : Shared) (H : Hp) (C : Addr) (cl : List (Str × Addr)) (fp : List Addr), PG (X.blk s H scope (compEnvC scope cl C X.env) fp) tg (rdG X.K g)) (ht : ∀ (s : Shared) (H : Hp) (C : Addr) (cl : List (Str × Addr)) (fp : List Addr), PTs (X.blk s H scope (compEnvC scope cl C X.env) fp) ifs (rdT ⟨X.K, fn, ar⟩ t))
    (he : ∀ (s : Shared) (H : Hp) (C : Addr) (cl : List (Str × Addr)) (fp : List Addr), PE (X.blk s H scope (compEnvC scope cl C X.env) fp) elt (rdE ⟨X.K, fn, ar⟩ A)) (hs : ∀ x, foldedSetIterable iter X.env x = pure x := by intro _; rfl) :
    PE X (.ListComp elt [⟨tg, iter, ifs, 0⟩] scope pos) (rdE ⟨X.K, fn, ar⟩ (.lc g J t A (own.map (·.2)))) := pe_lc hc hN hi ok hg ht he hs
theorem ds_setLc {i : Nat} (own : List (Str × Nat)) (hc : X.calm = true) (hN : X.N.Nodup) (hy : X.N[i]? = some y) (hyl : X.env.scope.names.lookup y = some .local) (ok : BlkOk X.N X.env.scope scope own) (hi : PI X tg iter (rdI ⟨X.K, fn, ar⟩ J))
    (hg : ∀ (s : Shared) (H : Hp) (C : Addr) (cl : List (Str × Addr)) (fp : List Addr), PG (X.blk s H scope (compEnvC scope cl C X.env) fp) tg (rdG X.K g)) (ht : ∀ (s : Shared) (H : Hp) (C : Addr) (cl : List (Str × Addr)) (fp : List Addr), PTs (X.blk s H scope (compEnvC scope cl C X.env) fp) ifs (rdT ⟨X.K, fn, ar⟩ t))
    (he : ∀ (s : Shared) (H : Hp) (C : Addr) (cl : List (Str × Addr)) (fp : List Addr), PE (X.blk s H scope (compEnvC scope cl C X.env) fp) elt (rdE ⟨X.K, fn, ar⟩ A)) (hk : X.env.scope.kind = .function := by rfl) (hl : (py.line == pos.line) = true := by rfl) (ha : (scope.names.any fun (n, k) => n == y && (k == .local || k == .cell)) = false := by rfl) (hs : ∀ x, foldedSetIterable iter X.env x = pure x := by intro _; rfl) :
    PS X (.Assign [.Name y py] (.ListComp elt [⟨tg, iter, ifs, 0⟩] scope pos) spos) (rdS ⟨X.K, fn, ar⟩ (.asg (.name i) (.lc g J t A (own.map (·.2))))) := ps_setLc hc hN hy hyl (sw_true hk hyl hl ha) hi ok hg ht he hs
end

/-! ### statements -/
variable {st : Stmt} {rest p q : List Stmt} {u v : Ss} {w : S} {g : G} {py pt pt2 px : Pos} {y z : Str} {kt k2 : Nat}
theorem dss_nil : PSs X [] (rdSs ⟨X.K, fn, ar⟩ .nil) := pss_nil
theorem dss (h : PS X st (rdS ⟨X.K, fn, ar⟩ w)) (h2 : PSs X rest (rdSs ⟨X.K, fn, ar⟩ u)) : PSs X (st :: rest) (rdSs ⟨X.K, fn, ar⟩ (.cons w u)) := pss_cons h h2
theorem dss_frz {i : Nat} (h : PSs X rest (rdSs ⟨X.K, fn, ar⟩ u)) : PSs X rest (rdSs ⟨X.K, fn, ar⟩ (.frz i u)) := h
theorem ds_set {i : Nat} (hN : X.N.Nodup) (hi : X.N[i]? = some x) (hx : Loc X.env.scope x) (he : PE X e (rdE ⟨X.K, fn, ar⟩ A)) (hs : swapsWith e (some (.Name x py)) pos.line X.env = pure false := by rfl) (hf : X.fn x = true ∨ X.env.scope.names.lookup x = some .local := by first | exact .inl rfl | exact .inr rfl) :
    PS X (.Assign [.Name x py] e pos) (rdS ⟨X.K, fn, ar⟩ (.asg (.name i) A)) := ps_set hN hi hx he hs hf
theorem ds_asg (he : PE X e (rdE ⟨X.K, fn, ar⟩ A)) (hg : PG X tg (rdG X.K g)) (hs : swapsWithSole [tg] e pos.line X.env = pure false := by rfl) (hw : swappedStores [tg] e X.env = pure none := by rfl) (h1 : (assignEach [tg] X.env).map (·.2) = [assign tg X.env] := by rfl) : PS X (.Assign [tg] e pos) (rdS ⟨X.K, fn, ar⟩ (.asg g A)) := ps_asg he hg hs hw h1
theorem ds_par {i j : Nat} (hc : X.calm = true) (hN : X.N.Nodup) (hi : X.N[i]? = some y) (hj : X.N[j]? = some z) (ha : PE X a (rdE ⟨X.K, fn, ar⟩ A)) (hb : PE X b (rdE ⟨X.K, fn, ar⟩ B)) (hij : i ≠ j := by decide)
    (hx : X.env.scope.names.lookup y = some .local := by rfl) (hy : X.env.scope.names.lookup z = some .local := by rfl)
    (hw : swappedStores [.Tuple [.Name y px, .Name z py] kt pt] (.Tuple [a, b] k2 pt2) X.env = pure (some [y, z]) := by rfl)
    (hs : swapsWithSole [.Tuple [.Name y px, .Name z py] kt pt] (.Tuple [a, b] k2 pt2) pos.line X.env = pure false := by rfl) (h1 : starEach [a, b] X.env = (false, eval a X.env) :: starEach [b] X.env := by rfl) (h2 : starEach [b] X.env = (false, eval b X.env) :: starEach [] X.env := by rfl) :
    PS X (.Assign [.Tuple [.Name y px, .Name z py] kt pt] (.Tuple [a, b] k2 pt2) pos) (rdS ⟨X.K, fn, ar⟩ (.par i j A B)) := ps_par hc hN hi hj hij hx hy (pa_cons ha (pa_cons hb pa_nil h2) h1) hw hs
theorem ds_seti (he : PE X e (rdE ⟨X.K, fn, ar⟩ C)) (ha : PE X a (rdE ⟨X.K, fn, ar⟩ A)) (hb : PE X b (rdE ⟨X.K, fn, ar⟩ B))
    (h0 : ∀ v, assign (.Subscript a b p1) X.env v = (do
      let ov ← holding [v] (eval a X.env)
      let iv ← holding [v, ov] (eval b X.env)
      standAt p1
      holding [v, ov, iv] (setItem ov iv v)
      release [v, ov, iv] []) := by intro _; rfl) (hs : swapsWithSole [.Subscript a b p1] e pos.line X.env = pure false := by rfl) (hw : swappedStores [.Subscript a b p1] e X.env = pure none := by rfl) (h1 : (assignEach [.Subscript a b p1] X.env).map (·.2) = [assign (.Subscript a b p1) X.env] := by rfl) :
    PS X (.Assign [.Subscript a b p1] e pos) (rdS ⟨X.K, fn, ar⟩ (.seti A B C)) := ps_asg he (pg_sub ha hb set_list h0) hs hw h1
theorem ds_dput (hr : Room k X.A) (he : PE X e (rdE ⟨X.K, fn, ar⟩ C)) (ha : PE X a (rdE ⟨X.K, fn, ar⟩ A)) (hb : PE X b (rdE ⟨X.K, fn, ar⟩ B)) (hs : swapsWith e (some (.Subscript a b p1)) pos.line X.env = pure false := by rfl) : PS X (.Assign [.Subscript a b p1] e pos) (rdS ⟨X.K, fn, ar⟩ (.dput A B C)) := ps_dput (hu_of hr) ha hb he hs
theorem ds_expr (he : PE X e (rdE ⟨X.K, fn, ar⟩ A)) (hs : swapsWith e none pos.line X.env = pure false := by rfl) : PS X (.Expr e pos) (rdS ⟨X.K, fn, ar⟩ (.expr A)) := ps_expr he hs
theorem ds_ret (he : PE X e (rdE ⟨X.K, fn, ar⟩ A)) : PS X (.Return (some e) pos) (rdS ⟨X.K, fn, ar⟩ (.ret A)) := ps_ret he
theorem ds_if (hc : PT X e (rdT ⟨X.K, fn, ar⟩ t)) (ha : PSs X p (rdSs ⟨X.K, fn, ar⟩ u)) (hb : PSs X q (rdSs ⟨X.K, fn, ar⟩ v)) : PS X (.If e p q pos) (rdS ⟨X.K, fn, ar⟩ (.ife t u v)) := ps_if hc ha hb
theorem ds_while (hp : PassesOwn (model X.prog X.w) X.A X.env X.xe) (hc : PT X e (rdT ⟨X.K, fn, ar⟩ t)) (ha : PSs X p (rdSs ⟨X.K, fn, ar⟩ u)) : PS X (.While e p [] pos) (rdS ⟨X.K, fn, ar⟩ (.whl t u)) := ps_while hp hc ha
def It.plain : It → Bool
  | .keys _ => false
  | _ => true
theorem ds_for (hp : PassesOwn (model X.prog X.w) X.A X.env X.xe) (hc : X.calm = true) (hi : PI X tg e (rdI ⟨X.K, fn, ar⟩ J)) (hg : PG X tg (rdG X.K g)) (ha : PSs X p (rdSs ⟨X.K, fn, ar⟩ u)) (hJ : J.plain = true := by rfl) (hs : ∀ x, foldedSetIterable e X.env x = pure x := by intro _; rfl) : PS X (.For tg e p [] pos) (rdS ⟨X.K, fn, ar⟩ (.for_ g J u)) := by
  cases J with
  | keys i => cases hJ
  | seq _ => exact ps_for hp hc hi hg ha hs
  | rng1 _ => exact ps_for hp hc hi hg ha hs
  | rng2 _ _ => exact ps_for hp hc hi hg ha hs
  | zip _ _ => exact ps_for hp hc hi hg ha hs
theorem ds_forK {i : Nat} (hp : PassesOwn (model X.prog X.w) X.A X.env X.xe) (hc : X.calm = true) (hi : PE X (.Name x p1) (rdE ⟨X.K, fn, ar⟩ (.var i))) (hg : PG X tg (rdG X.K g)) (ha : PSs X p (rdSs ⟨X.K, fn, ar⟩ u)) : PS X (.For tg (.Name x p1) p [] pos) (rdS ⟨X.K, fn, ar⟩ (.for_ g (.keys i) u)) :=
  ps_lock (ps_for hp hc (pi_keys hi) hg ha)
theorem ds_never : PS X st (rdS ⟨X.K, fn, ar⟩ .never) := ps_never
theorem ds_pass : PS X (.Pass pos) (rdS ⟨X.K, fn, ar⟩ .pass) := ps_pass
end
end Fw

/-! Fw, part S: sorted(xs, key=f), f a def that gives its parameter's first. -/
namespace Fw
open PySem PySem.Spec PyProof.Rows L2

/-- f: def f(y): return y[0] -/
def KeyD (K : PySem.W.Frag) (mg : Str → Option Value) (x : Str) : Prop :=
  ∃ (f : Addr) (qual y : Str) (st : Stmt) (fd : FuncData) (p1 p2 p3 p4 : Pos) (j : Nat), Fun K x qual st f fd ∧ mg x = some (.ref f) ∧ (∀ u : Value, ∀ s : Shared, BindsTo s fd ⟨[u], []⟩ [(y, u)]) ∧ FnScope [y] [y] (defScope st) ∧ (defScope st).names.lookup y = some .local ∧ (y == ("__debug__" : Str)) = false ∧
    defBody st = [.Return (some (.Subscript (.Name y p1) (.Constant (.int 0) j p2) p3)) p4]
section
variable {X : Cx} {k : Nat} {fn : Nat → List D → Sto → Option (D × Sto)} {ar : Nat → Nat} {pos p1 p2 p3 : Pos}
theorem each_zip : ∀ {vs : List V} {us : List Value} {ks : List Int}, Vals vs us → vs.length = ks.length → PySem.W.EachIs (fun (u : Value) (p : Int × V) => RelV p.2 u) us (ks.zip vs)
  | _, _, [], .nil, _ => .nil
  | _, _, _ :: _, .nil, h => by simp at h
  | _, _, [], .cons _ _, h => by simp at h
  | _, _, c :: ks, .cons h r, hl => .cons h (each_zip r (by simpa using hl))
theorem each_vals : ∀ {us : List Value} {ps : List (Int × V)}, PySem.W.EachIs (fun (u : Value) (p : Int × V) => RelV p.2 u) us ps → Vals (ps.map (·.2)) us
  | _, _, .nil => .nil
  | _, _, .cons h r => .cons h (each_vals r)
theorem key_call {f : Addr} {x qual y : Str} {st : Stmt} {fd : FuncData} {q1 q2 q3 q4 : Pos} {j : Nat} {A : Around} {s : Shared} {a : Addr} {its : List Value} {i : Int} {t : Tok} (F : Fun X.K x qual st f fd) (hb : ∀ u : Value, ∀ s : Shared, BindsTo s fd ⟨[u], []⟩ [(y, u)]) (S : FnScope [y] [y] (defScope st)) (hy : (defScope st).names.lookup y = some .local) (hdb : (y == ("__debug__" : Str)) = false)
    (hbd : defBody st = [.Return (some (.Subscript (.Name y q1) (.Constant (.int 0) j q2) q3)) q4]) (hd : A.depth < recursionLimit) (KX : X.K.In s.heap) (lim : s.heap.NoLimit) (hT : IsTup s.heap a ((Value.int i t) :: its).toArray) :
    wpAny (model X.prog X.w) A (call (.ref f) [.ref a]) (PySem.W.KeyPure (.int i) s) (fun _ _ => False) s := by
  obtain ⟨oc, od, kV, doc, pm, an, cdv, ct, osl, rfl, lk, hcd⟩ := F.ex
  refine wpAny_call (codeAny_call_function hd (KX _ _ lk) rfl S.co S.gen rfl (PySem.W.codeRec_of KX hcd) (hb _ _ _ _ _ _ ?_))
  refine wpAny_newFunctionEnv_cells S.kind (fun z hz => ?_) fun env he s1 xx => ?_
  · rw [List.mem_singleton.mp hz]; exact .inl hy
  · subst he
    refine ⟨lim.keeps xx.toInCall.keep, codeAny_func ?_⟩
    rw [hbd]
    generalize hE : newEnv (PySem.W.fnOf x qual (defArgs st) (defBody st) (defScope st) Value.none kV doc pm an cdv ct).scope _ _ _ _ _ _ _ _ = env at xx ⊢
    have e1 : env.scope = defScope st := by rw [← hE]; rfl
    have e2 : env.kindOf y = some .local := by show env.scope.names.lookup y = _; rw [e1]; exact hy
    obtain ⟨h', tk, rfl, kp⟩ := xx.done
    have hT1 : IsTup h' a ((Value.int i t) :: its).toArray := hT.keeps kp
    refine wpAny_execs_cons (wpAny_Return_some (Subscript_ (wpAny_Name (wpAny_loadName_local (v := .ref a) (by rw [e1]; exact S.kind) e2 xx.toInCall.ns ?_ (wpAny_Constant_int ?_)) hdb)))
    · simp [bindL, e2]
    · refine subscriptTail_builtinR (x := .int i t) hT1.typeIs slot_tuple_getitem.lookup (getItem_tuple (j := 0) hT1 (by decide) (by decide) ?_ rfl ⟨rfl, ?_⟩)
      · simp [seqIndex?]
      · exact ⟨_, _, rfl, kp, .int i t⟩
variable {e : Expr} {A : E}
theorem d_sort {x : Str} (h : KeyD X.K X.mg x) (hr : Room k X.A) (hg : Gl X "sorted") (hm : X.mg "sorted" = none) (hx : Gl X x) (he : PE X e (rdE ⟨X.K, fn, ar⟩ A)) (hdb : (x == ("__debug__" : Str)) = false := by decide)
    (he1 : starEach [e] X.env = (false, eval e X.env) :: starEach [] X.env := by rfl) (hpl : (backTo pos (starEach [e] X.env)).any (·.1) = false := by rfl)
    (hall : (backToKw pos (keywordEach [⟨some "key", .Name x p2, p3⟩] X.env)).all (·.1.isSome) = true := by rfl) (hnone : (backToKw pos (keywordEach [⟨some "key", .Name x p2, p3⟩] X.env)).any (·.1.isNone) = false := by rfl) (hks : (backToKw pos (keywordEach [⟨some "key", .Name x p2, p3⟩] X.env)).filterMap (·.1) = [Str.ofString "key"] := by rfl) :
    PE X (.Call (.Name "sorted" p1) [e] [⟨some "key", .Name x p2, p3⟩] pos) (rdE ⟨X.K, fn, ar⟩ (.newSort A)) := by
  obtain ⟨f, qual, y, st, fd, q1, q2, q3, q4, j, F, hmx, hb, S, hy, hdy, hbd⟩ := h
  refine ⟨fun pins s σ H Q I h => ?_⟩
  refine wpAny_Call_Name_kw (ld_blt (u := .builtin "sorted") I hg hm (by decide +kernel) ?_ (by decide) (by decide))
  have ha : PA X [e] (tCons (rdE ⟨X.K, fn, ar⟩ A) tNil) := pa_cons he pa_nil he1
  have hk : PK X [⟨some "key", .Name x p2, p3⟩] (tCons (tC (V.ref f)) tNil) := pk_cons (pe_glob hx hmx rfl hdb) pk_nil
  refine PyProof.Rows.callWith_kw (thn (ha.run pos pins s σ H (fun vs H1 => match vs with
    | [v] => (fun (x : V) (H1 : Hp) => ∃ (l : Addr) (vs : List V) (ks : List Int), x = .ref l ∧ H1 l = some (.lst vs) ∧ vs.length = ks.length ∧ vs.length ≤ 60 ∧
        (∀ (i : Nat) (v : V) (k : Int), vs[i]? = some v → ks[i]? = some k → ∃ (a : Addr) (us : List V), v = .ref a ∧ H1 a = some (.tup (.int k :: us))) ∧
        ∀ p, H1 p = none → Q (.ref p) (upd H1 p (.lst ((sortK (ks.zip vs)).map (·.2))))) v H1
    | _ => False) I h) fun us s1 ⟨vs, H1, I1, r1, q1⟩ => thn (hk.run pos pins s1 σ H1 (fun zs H2 => zs = [V.ref f] ∧ H2 = H1) I1 ⟨rfl, rfl⟩) fun ws s2 ⟨zs, H2, I2, r2, q2⟩ => ?_) (by rw [he1]; rfl) hpl hall hnone
  rw [hks]
  obtain ⟨rfl, rfl⟩ := q2
  cases r1 with
  | nil => exact q1.elim
  | cons r1 rr => cases rr with
    | cons _ _ => exact q1.elim
    | nil =>
      obtain ⟨l, vs, ks, rfl, hl, hlen, h60, hit, q⟩ := q1
      cases r1
      obtain ⟨w1, rfl, e1⟩ := vals1 r2
      obtain rfl : w1 = Value.ref f := e1
      obtain ⟨its, rv, pl, hz⟩ := I2.list (xs := vs) (.inl (.inl hl))
      have hZ : (ks.zip vs).length ≤ sizeLine := by
        rw [List.length_zip, hlen, Nat.min_self, ← hlen]; exact hz
      show wpAny _ _ (call (.builtin "sorted") [.ref l] [(Str.ofString "key", .ref f)]) _ _ _
      refine PySem.W.sorted_key_data (b := false) (fun p : Int × V => .int p.1) pl.isList (each_zip rv hlen) (PySem.W.AllAlike.of fun _ _ => by simp [PySem.W.alike]) (PySem.W.Sortable.others fun _ => ⟨(fun z => nomatch z), (fun _ z => nomatch z)⟩) hZ (fun p _ => ?_) (ksk_s1 _ _) (fun _ => ksk_l1 _ _) (fun _ => ksk_t1 _ _)
        (fun v p hR hmem h tk kp => ?_) fun out c h' tk kp hfr hD hln eo => ?_
      · have := hr.un
        have hd : (PyData.int p.1).depth = 0 := by simp [PyData.depth]
        rw [hd]
        omega
      · obtain ⟨i, hi⟩ := List.mem_iff_getElem?.mp hmem
        obtain ⟨z1, z2⟩ := List.getElem?_zip_eq_some.mp hi
        obtain ⟨a, us, e1, e2⟩ := hit i p.2 p.1 z2 z1
        rw [e1] at hR
        obtain rfl : v = Value.ref a := hR
        obtain ⟨jt, jv, jp, jz⟩ := I2.tuple (xs := .int p.1 :: us) (.inl (.inl e2))
        cases jv with
        | cons j0 jv =>
          obtain ⟨t, rfl⟩ := j0
          exact key_call F hb S hy hdy hbd (by show X.A.depth < _; have := hr.dp; omega) (I2.kIn.keeps kp) (I2.nolimit.keeps kp) (jp.keeps kp)
      · have ev := each_vals eo
        rw [PySem.W.dataLe_int] at ev
        have es : (s2.heap.objs.size + 1 : Nat) = s2.heap.objs.size + 1 := rfl
        exact ⟨.ref _, upd H2 (s2.heap.objs.size + 1) (.lst ((sortK (ks.zip vs)).map (·.2))), I2.laid kp (Nat.le_succ _) ⟨by rw [List.length_map]; unfold sortK; rw [List.length_mergeSort]; exact hZ, out, c, ev, hD⟩, rfl, q _ (I2.hok.fresh (Nat.le_succ _))⟩
end
end Fw

/-! Fw, part J: a def of the text keeps what its evaluator says. -/
namespace Fw
open PySem PySem.Spec PyProof.Rows L2

def arOf (PD : Nat → Option Df) (i : Nat) : Nat := match PD i with
  | some f => f.np
  | none => 0
theorem run_ar {PD : Nat → Option Df} {wf : Nat} : ∀ {k i : Nat} {ds : List D} {s : Sto} {r : D × Sto}, run PD wf k i ds s = some r → ds.length = arOf PD i
  | 0, _, _, _, _, h => by cases h
  | k + 1, i, ds, s, r, h => by
    simp only [run] at h
    split at h
    · rename_i f hf
      unfold arOf
      rw [hf]
      unfold Df.go at h
      split at h
      · assumption
      · cases h
    · cases h
section
variable {K : PySem.W.Frag}
theorem EnR.nones {g : Gh} : ∀ n : Nat, EnR K g (List.replicate n none) (List.replicate n none)
  | 0 => .nil
  | n + 1 => .no (EnR.nones n)
theorem EnR.args {g : Gh} {n : Nat} : ∀ {vs : List V} {ds : List D}, RepL K g vs ds → EnR K g (ds.map some ++ List.replicate n none) (vs.map some ++ List.replicate n none)
  | _, _, .nil => EnR.nones n
  | _, _, .cons h r => .yes h (EnR.args r)
variable {P : Program} {w : World} {mg : Str → Option Value} {base : Heap}
theorem fun_fw {PD : Nat → Option Df} {wf k i : Nat} {x qual : Str} {st : Stmt} {f : Addr} {fd : FuncData} {N ps : List Str} (F : Fun K x qual st f fd) (S : FnScope N ps (defScope st)) {df : Df} (hP : PD i = some df) (hnp : df.np = ps.length) (hns : df.ns = N.length)
    (body : ∀ (cdv : Value) (A : Around) (outer : List Env) (s : Shared) (H : Hp) (E : XK), Room k (A.deeper (envOfC qual (defScope st) s.heap.objs.size f cdv)) → PSs (cxOf CX0 P w K mg base N qual (defScope st) f cdv A outer s H E).nox (defBody st) (rdSs ⟨K, run PD wf k, arOf PD⟩ df.body)) :
    FnOk P w K mg base CX0 (k + 1) f fd ps (SpF K (arOf PD i) (run PD wf (k + 1) i)) := by
  have ha : arOf PD i = ps.length := by unfold arOf; rw [hP]; exact hnp
  refine F.ok S (fun vs H Q E h => h.1.trans ha) fun cdv A outer s H vs Q E hr h => ?_
  refine ⟨_, body cdv A outer s H E hr, ?_⟩
  obtain ⟨hl, g, ds, st0, d, s', rl, W, e, q⟩ := h
  simp only [run, hP] at e
  unfold Df.go at e
  split at e
  · rename_i hd
    have en : EnR K g (ds.map some ++ List.replicate (df.ns - df.np) none) (L2.start N vs) := by
      unfold L2.start
      have : N.length - vs.length = df.ns - df.np := by rw [hl, ha, hns, hnp]
      rw [this]
      exact EnR.args rl
    have L : Lk ⟨run PD wf k, wf, st0.length⟩ ⟨K, run PD wf k, arOf PD⟩ := ⟨rfl, fun i ds s r h => run_ar h⟩
    split at e
    · rename_i d1 s1 h1
      cases e
      exact sndSs L df.body g st0 _ _ H _ h1 W en _ fun v g' H' S' W' r' => q v g' H' S' W' r'
    · rename_i e1 s1 h1
      cases e
      exact sndSs L df.body g st0 _ _ H _ h1 W en _ fun σ' g' H' S' W' E' => q .non g' H' S' W' .non
    · cases e
  · cases e
/-- at no level nothing is promised -/
theorem fn_zero {PD : Nat → Option Df} {wf i : Nat} {f : Addr} {fd : FuncData} {ps : List Str} (h : arOf PD i = ps.length) : FnOk P w K mg base CX0 0 f fd ps (SpF K (arOf PD i) (run PD wf 0 i)) :=
  ⟨fun vs H Q E z => z.1.trans h, fun A outer s H args us vs Q E hr e0 hb r ⟨_, g, ds, s0, d, s', _, _, e, _⟩ => by cases e⟩
/-- the law's own promise -/
def spLaw (K : PySem.W.Frag) (n : Nat) : Sp := fun vs H Q _ => ∃ (a : Addr) (ns : List Int), vs = [.ref a] ∧ SqL K H a (ns.map V.int) ∧ ns.length ≤ n ∧ (∀ H', Q (.bl true) H')
theorem fn_law {PD : Nat → Option Df} {wf k i n : Nat} {f : Addr} {fd : FuncData} {x : Str} (F : FnOk P w K mg base CX0 k f fd [x] (SpF K (arOf PD i) (run PD wf k i))) (h1 : arOf PD i = 1)
    (hlaw : ∀ ns : List Int, ns.length ≤ n → ∃ s', run PD wf k i [.scr ns] [] = some (.bl true, s')) : FnOk P w K mg base CX0 k f fd [x] (spLaw K n) := by
  refine ⟨fun vs H Q E ⟨a, ns, e, _⟩ => by rw [e]; rfl, fun A outer s H args us vs Q E hr e0 hb r hsp => ?_⟩
  obtain ⟨a, ns, rfl, hS, hl, q⟩ := hsp
  refine F.run A outer s H args us [.ref a] Q E hr e0 hb r ?_
  obtain ⟨s', e⟩ := hlaw ns hl
  refine ⟨by rw [h1]; rfl, ⟨H, []⟩, [.scr ns], [], .bl true, s', .cons (.scr hS) .nil, ?_, e, fun v g' H' S W r => ?_⟩
  · exact ⟨fun a o h => .inl h, rfl, fun n a h => by simp at h, fun n q h _ => by have := get_lt h; simp at this, fun n q h => by have := get_lt h; simp at this, fun n m a h => by have := live_lt h; simp at this⟩
  · cases r
    exact q H'
end
end Fw

/-! Fw, part M: laws of the evaluator, for the mathematics. -/
namespace Fw
open PySem

section
variable {f : D → Sto → Option (Option D × Sto)}
/-- a comprehension that leaves the store -/
theorem lcV_pure {α : Type} (en : α → D) (h : α → Option D) {s : Sto} : ∀ (l : List α), (∀ x ∈ l, f (en x) s = some (h x, s)) → lcV f (l.map en) s = some (l.filterMap h, s)
  | [], _ => rfl
  | x :: l, hf => by
    rw [List.map_cons]
    simp only [lcV, hf x (List.mem_cons_self ..), Option.bind_some, lcV_pure en h l fun y m => hf y (List.mem_cons_of_mem _ m)]
    cases e : h x with
    | none => rw [List.filterMap_cons_none e]
    | some y => rw [List.filterMap_cons_some e]
theorem lcV_map {α : Type} (en : α → D) (h : α → D) {s : Sto} (l : List α) (hf : ∀ x ∈ l, f (en x) s = some (some (h x), s)) : lcV f (l.map en) s = some (l.map h, s) := by
  rw [lcV_pure en (fun x => some (h x)) l hf]
  rw [List.filterMap_eq_map']
/-- with the store going on, by an invariant: acc is what was kept -/
theorem lcV_inv {α : Type} (en : α → D) (I : List α → List D → Sto → Prop) {s : Sto} : ∀ (l : List α) (pre : List α) (acc : List D), I pre acc s →
    (∀ (p : List α) (x : α) (q : List α) (acc : List D) (s : Sto), pre ++ l = p ++ x :: q → I p acc s → ∃ o s', f (en x) s = some (o, s') ∧ I (p ++ [x]) (match o with | some d => acc ++ [d] | none => acc) s') → ∃ out s', lcV f (l.map en) s = some (out, s') ∧ I (pre ++ l) (acc ++ out) s'
  | [], pre, acc, h0, _ => ⟨[], s, rfl, by rw [List.append_nil, List.append_nil]; exact h0⟩
  | x :: l, pre, acc, h0, hs => by
    obtain ⟨o, s1, e1, i1⟩ := hs pre x l acc s rfl h0
    obtain ⟨out, s2, e2, i2⟩ := lcV_inv en I l (pre ++ [x]) _ i1 fun p y q a s z i => hs p y q a s (by rw [← z]; simp) i
    simp only [List.map_cons, lcV, e1, Option.bind_some, e2]
    refine ⟨_, _, rfl, ?_⟩
    rw [List.append_assoc, List.singleton_append] at i2
    cases o with
    | none => exact i2
    | some d =>
      rw [List.append_assoc, List.singleton_append] at i2
      exact i2
end
theorem srcGo_vals {f : D → Sto → Option (Option D × Sto)} {l : List D} {s : Sto} (h : l.length ≤ ZL) : srcGo f (.vals l) s = lcV f l s := by
  simp only [srcGo, h, if_true]

/-- a for's turns by an invariant; each turn goes on -/
theorem forV_inv {α : Type} (en : α → D) {f : En → Sto → Option Rs} {g : G} (I : List α → En → Sto → Prop) : ∀ (l pre : List α) (env : En) (s : Sto), I pre env s →
    (∀ (p : List α) (x : α) (q : List α) (env : En) (s : Sto), pre ++ l = p ++ x :: q → I p env s → ∃ e1 e2 s2, asgG g (en x) env = some e1 ∧ (f e1 s = some (.nx e2 s2) ∨ f e1 s = some (.ct e2 s2)) ∧ I (p ++ [x]) e2 s2) → ∃ env' s', forV f g (l.map en) env s = some (.nx env' s') ∧ I (pre ++ l) env' s'
  | [], pre, env, s, h0, _ => ⟨env, s, rfl, by rw [List.append_nil]; exact h0⟩
  | x :: l, pre, env, s, h0, hs => by
    obtain ⟨e1, e2, s2, a1, a2, a3⟩ := hs pre x l env s rfl h0
    obtain ⟨env', s', b1, b2⟩ := forV_inv en I l (pre ++ [x]) e2 s2 a3 fun p y q e s z i => hs p y q e s (by rw [← z]; simp) i
    refine ⟨env', s', ?_, by rw [List.append_assoc] at b2; exact b2⟩
    rcases a2 with a2 | a2 <;> simp only [List.map_cons, forV, a1, a2, b1]
/-- a while's turns by an invariant with a measure -/
theorem while_inv {c : En → Sto → Option (Bool × Sto)} {f : En → Sto → Option Rs} (I : Nat → En → Sto → Prop) (Q : En → Sto → Prop) : ∀ (n m : Nat) (env : En) (s : Sto), m < n → I m env s →
    (∀ m env s, I m env s → (∃ s', c env s = some (false, s') ∧ Q env s') ∨ (∃ s1 e2 s2 m2, c env s = some (true, s1) ∧ (f env s1 = some (.nx e2 s2) ∨ f env s1 = some (.ct e2 s2)) ∧ m2 < m ∧ I m2 e2 s2)) → ∃ env' s', whileF c f n env s = some (.nx env' s') ∧ Q env' s'
  | 0, m, _, _, h, _, _ => absurd h (Nat.not_lt_zero _)
  | n + 1, m, env, s, hm, h0, hs => by
    rcases hs m env s h0 with ⟨s', e, q⟩ | ⟨s1, e2, s2, m2, e, e', hl, i⟩
    · exact ⟨env, s', by simp only [whileF, e], q⟩
    · obtain ⟨env', s', b1, b2⟩ := while_inv I Q n m2 e2 s2 (by omega) i hs
      refine ⟨env', s', ?_, b2⟩
      rcases e' with e' | e' <;> simp only [whileF, e, e', b1]
theorem clL_map {α : Type} {en : α → D} (h : ∀ x, (en x).cl = true) : ∀ l : List α, clL (l.map en) = true
  | [] => rfl
  | x :: l => by simp only [List.map_cons, clL, h x, clL_map h l, Bool.and_self]
theorem clL_app : ∀ a b : List D, clL (a ++ b) = (clL a && clL b)
  | [], b => rfl
  | x :: a, b => by simp only [List.cons_append, clL, clL_app a b, Bool.and_assoc]
@[simp] theorem atI_ofNat {α : Type} (l : List α) (i : Nat) : L2.atI l (i : Int) = l[i]? := by
  unfold L2.atI L2.ixN
  rw [if_pos (by omega)]
  by_cases h : i < l.length
  · rw [if_pos (by omega)]; simp
  · rw [if_neg (by omega), List.getElem?_eq_none (by omega)]; rfl
@[simp] theorem atI_2 {α : Type} (l : List α) : L2.atI l (2 : Int) = l[2]? := atI_ofNat l 2
@[simp] theorem atI_3 {α : Type} (l : List α) : L2.atI l (3 : Int) = l[3]? := atI_ofNat l 3
@[simp] theorem atI_4 {α : Type} (l : List α) : L2.atI l (4 : Int) = l[4]? := atI_ofNat l 4
@[simp] theorem atI_5 {α : Type} (l : List α) : L2.atI l (5 : Int) = l[5]? := atI_ofNat l 5
@[simp] theorem atI_6 {α : Type} (l : List α) : L2.atI l (6 : Int) = l[6]? := atI_ofNat l 6
@[simp] theorem atI_7 {α : Type} (l : List α) : L2.atI l (7 : Int) = l[7]? := atI_ofNat l 7
@[simp] theorem atI_8 {α : Type} (l : List α) : L2.atI l (8 : Int) = l[8]? := atI_ofNat l 8
@[simp] theorem atI_9 {α : Type} (l : List α) : L2.atI l (9 : Int) = l[9]? := atI_ofNat l 9
@[simp] theorem atI_0 {α : Type} (l : List α) : L2.atI l (0 : Int) = l[0]? := atI_ofNat l 0
@[simp] theorem atI_1 {α : Type} (l : List α) : L2.atI l (1 : Int) = l[1]? := atI_ofNat l 1
/-- a def without references -/
theorem pure_call {fn : Nat → List D → Sto → Option (D × Sto)} {wf i : Nat} {ds : List D} {d : D} {s' : Sto} (hc : clL ds = true) (h : fn i ds [] = some (d, s')) (hd : d.cl = true) (b : Nat) (s : Sto) : Cc.run ⟨fn, wf, b⟩ true i ds s = some (d, s) := by
  simp only [Cc.run, hc, h, hd, if_true]
@[simp] theorem own_call {C : Cc} {i : Nat} {ds : List D} {s : Sto} : C.run false i ds s = C.fn i ds s := rfl
@[simp] theorem addI (i j : Int) : evBin .add (.int i) (.int j) = some (.int (i + j)) := rfl
@[simp] theorem subI (i j : Int) : evBin .sub (.int i) (.int j) = some (.int (i - j)) := rfl
@[simp] theorem ltI (i j : Int) : evCmp .lt (.int i) (.int j) = some (decide (i < j)) := rfl
@[simp] theorem leI (i j : Int) : evCmp .le (.int i) (.int j) = some (decide (i ≤ j)) := rfl
@[simp] theorem gtI (i j : Int) : evCmp .gt (.int i) (.int j) = some (decide (j < i)) := rfl
@[simp] theorem geI (i j : Int) : evCmp .ge (.int i) (.int j) = some (decide (j ≤ i)) := rfl
@[simp] theorem eqI (i j : Int) : evCmp .eq (.int i) (.int j) = some (i == j) := rfl
theorem strs_map : ∀ l : List Str, strsD (l.map D.str) = some l
  | [] => rfl
  | x :: l => by simp only [List.map_cons, strsD, strs_map l, Option.map_some]
end Fw

/-! Fw, part N: the evaluator's equations, for simp (printed by genM.py). -/
namespace Fw
open PySem
variable {C : Cc} {env : En} {s : Sto}
section
/-- the block's names -/
def ownOK (g : G) (own : List Nat) : Bool := g.slots.all fun i => own.contains i
@[simp] theorem own1 (i : Nat) : ownOK (.name i) [i] = true := by simp [ownOK, G.slots]
@[simp] theorem own2 (i j : Nat) : ownOK (.tup (Gs.of [.name i, .name j])) [i, j] = true := by simp [ownOK, G.slots, Gs.slots, Gs.of]
def joinF (u v : D) (s : Sto) : Option (D × Sto) := match u, v with
    | .str x, .lst ds => (strsD ds).bind fun ys => if (ys.map (·.length)).sum + ys.length * x.length ≤ ZL then some (.str (Txt.join x ys), s) else none
    | _, _ => none
/-- a comprehension's one turn -/
def lcF (C : Cc) (env : En) (g : G) (t : T) (e : E) (own : List Nat) (d : D) (s1 : Sto) : Option (Option D × Sto) := (asgG g d (wipeD env own)).bind fun e1 => (evT C e1 t s1).bind fun q => match q.1 with
        | true => (evE C e1 e q.2).map fun r => (some r.1, r.2)
        | false => some (none, q.2)
def forE (C : Cc) (g : G) (b : Ss) (l : List D) (env : En) (s : Sto) : Option Rs := forV (fun e s1 => exSs C b e s1) g l env s
def whlE (C : Cc) (t : T) (b : Ss) (env : En) (s : Sto) : Option Rs := whileF (fun e s1 => evT C e t s1) (fun e s1 => exSs C b e s1) C.wf env s
@[simp] theorem evE_var : evE C env (.var i) s = match env[i]? with
    | some (some d) => some (d, s)
    | _ => none := by first | (simp only [evE]; done) | (simp only [evE]; rfl)
@[simp] theorem evE_non : evE C env .non s = some (.non, s) := by first | (simp only [evE]; done) | (simp only [evE]; rfl)
@[simp] theorem evE_bl : evE C env (.bl b) s = some (.bl b, s) := by first | (simp only [evE]; done) | (simp only [evE]; rfl)
@[simp] theorem evE_int : evE C env (.int i) s = some (.int i, s) := by first | (simp only [evE]; done) | (simp only [evE]; rfl)
@[simp] theorem evE_str : evE C env (.str x) s = some (.str x, s) := by first | (simp only [evE]; done) | (simp only [evE]; rfl)
@[simp] theorem evE_tup : evE C env (.tup es) s = (evEs C env es s).bind fun p => if p.1.length ≤ ZL then some (.tup p.1, p.2) else none := by first | (simp only [evE]; done) | (simp only [evE]; rfl)
@[simp] theorem evE_lst : evE C env (.lst es) s = (evEs C env es s).bind fun p => if p.1.length ≤ ZL then some (.lst p.1, p.2) else none := by first | (simp only [evE]; done) | (simp only [evE]; rfl)
@[simp] theorem evE_newL : evE C env (.newL es) s = (evEs C env es s).bind fun p => if p.1.length ≤ ZL then some (.obj p.2.length, p.2 ++ [some (.lst p.1)]) else none := by first | (simp only [evE]; done) | (simp only [evE]; rfl)
@[simp] theorem evE_newK : evE C env .newK s = some (.obj s.length, s ++ [some (.dK [])]) := by first | (simp only [evE]; done) | (simp only [evE]; rfl)
@[simp] theorem evE_newT : evE C env .newT s = some (.obj s.length, s ++ [some (.dT [])]) := by first | (simp only [evE]; done) | (simp only [evE]; rfl)
@[simp] theorem evE_disp : evE C env (.disp ks es) s = (evEs C env es s).bind fun p => if p.1.length = ks.length ∧ ks.length ≤ 15 then some (.obj p.2.length, p.2 ++ [some (.dK (mergeD [] ((ks.map Sum.inr).zip p.1)))]) else none := by first | (simp only [evE]; done) | (simp only [evE]; rfl)
@[simp] theorem evE_bin : evE C env (.bin o a b) s = (evE C env a s).bind fun p => (evE C env b p.2).bind fun q => (evBin o p.1 q.1).map fun d => (d, q.2) := by first | (simp only [evE]; done) | (simp only [evE]; rfl)
@[simp] theorem evE_cmp : evE C env (.cmp o a b) s = (evE C env a s).bind fun p => (evE C env b p.2).bind fun q => (evCmp o p.1 q.1).map fun r => (.bl r, q.2) := by first | (simp only [evE]; done) | (simp only [evE]; rfl)
@[simp] theorem evE_chn : evE C env (.chn o o' a b c) s = (evE C env a s).bind fun p => (evE C env b p.2).bind fun q => (evCmp o p.1 q.1).bind fun r =>
      if r = true then (evE C env c q.2).bind fun u => (evCmp o' q.1 u.1).map fun r' => (.bl r', u.2) else some (.bl false, q.2) := by first | (simp only [evE]; done) | (simp only [evE]; rfl)
@[simp] theorem evE_not : evE C env (.not a) s = (evE C env a s).bind fun p => match p.1 with
    | .bl b => some (.bl (!b), p.2)
    | _ => none := by first | (simp only [evE]; done) | (simp only [evE]; rfl)
@[simp] theorem evE_and : evE C env (.and a b) s = (evE C env a s).bind fun p => match p.1 with
    | .bl true => evE C env b p.2
    | .bl false => some (.bl false, p.2)
    | _ => none := by first | (simp only [evE]; done) | (simp only [evE]; rfl)
@[simp] theorem evE_or : evE C env (.or a b) s = (evE C env a s).bind fun p => match p.1 with
    | .bl true => some (.bl true, p.2)
    | .bl false => evE C env b p.2
    | _ => none := by first | (simp only [evE]; done) | (simp only [evE]; rfl)
@[simp] theorem evE_ife : evE C env (.ife t a b) s = (evT C env t s).bind fun p => match p.1 with
    | true => evE C env a p.2
    | false => evE C env b p.2 := by first | (simp only [evE]; done) | (simp only [evE]; rfl)
@[simp] theorem evE_idx : evE C env (.idx a b) s = (evE C env a s).bind fun p => (evE C env b p.2).bind fun q => (atD q.2 p.1 q.1).map fun d => (d, q.2) := by first | (simp only [evE]; done) | (simp only [evE]; rfl)
@[simp] theorem evE_dget : evE C env (.dget a k) s = (evE C env a s).bind fun p => (evE C env k p.2).bind fun q => match dLook q.2 p.1 q.1 with
    | some (some d) => some (d, q.2)
    | _ => none := by first | (simp only [evE]; done) | (simp only [evE]; rfl)
@[simp] theorem evE_din : evE C env (.din k a) s = (evE C env k s).bind fun p => (evE C env a p.2).bind fun q => (dLook q.2 q.1 p.1).map fun o => (.bl o.isSome, q.2) := by first | (simp only [evE]; done) | (simp only [evE]; rfl)
@[simp] theorem evE_dnin : evE C env (.dnin k a) s = (evE C env k s).bind fun p => (evE C env a p.2).bind fun q => (dLook q.2 q.1 p.1).map fun o => (.bl (!o.isSome), q.2) := by first | (simp only [evE]; done) | (simp only [evE]; rfl)
@[simp] theorem evE_slc : evE C env (.slc a lo hi) s = (evE C env a s).bind fun p => (evOe C env lo p.2).bind fun q => (evOe C env hi q.2).bind fun r => (slcD p.1 q.1 r.1).map fun d => (d, r.2) := by first | (simp only [evE]; done) | (simp only [evE]; rfl)
@[simp] theorem evE_call : evE C env (.call p i es) s = (evEs C env es s).bind fun q => C.run p i q.1 q.2 := by first | (simp only [evE]; done) | (simp only [evE]; rfl)
@[simp] theorem evE_callK : evE C env (.callK p i perm es ks) s = (evEs C env es s).bind fun q => (evEs C env ks q.2).bind fun r => C.run p i (permL .non es.n perm q.1 r.1) r.2 := by first | (simp only [evE]; done) | (simp only [evE]; rfl)
@[simp] theorem evE_b1 : evE C env (.b1 f a) s = (evE C env a s).bind fun p => (evB1 p.2 f p.1).map fun d => (d, p.2) := by first | (simp only [evE]; done) | (simp only [evE]; rfl)
@[simp] theorem evE_newLst : evE C env (.newLst a) s = (evE C env a s).bind fun p => (listD p.2 p.1).map fun ds => (.obj p.2.length, p.2 ++ [some (.lst ds)]) := by first | (simp only [evE]; done) | (simp only [evE]; rfl)
@[simp] theorem evE_tupRg : evE C env (.tupRg a) s = (evE C env a s).bind fun p => match p.1 with
    | .int n => if 0 ≤ n ∧ n ≤ ZL then some (.tup (rgD n), p.2) else none
    | _ => none := by first | (simp only [evE]; done) | (simp only [evE]; rfl)
@[simp] theorem evE_max2 : evE C env (.max2 a b) s = (evE C env a s).bind fun p => (evE C env b p.2).bind fun q => match p.1, q.1 with
    | .int i, .int j => some (.int (if j > i then j else i), q.2)
    | _, _ => none := by first | (simp only [evE]; done) | (simp only [evE]; rfl)
@[simp] theorem evE_isI : evE C env (.isI a c) s = (evE C env a s).bind fun p => (isID p.2 p.1 c).map fun b => (.bl b, p.2) := by first | (simp only [evE]; done) | (simp only [evE]; rfl)
@[simp] theorem evE_join : evE C env (.join a b) s = (evE C env a s).bind fun p => (evE C env b p.2).bind fun q => joinF p.1 q.1 q.2 := by simp only [evE]; rfl
@[simp] theorem evE_pop : evE C env (.pop a) s = (evE C env a s).bind fun p => match p.1 with
    | .obj n => match getO p.2 n with
      | some (.lst xs) => match xs[xs.length - 1]? with
        | some d => some (d, setO p.2 n (some (.lst xs.dropLast)))
        | none => none
      | _ => none
    | _ => none := by first | (simp only [evE]; done) | (simp only [evE]; rfl)
@[simp] theorem evE_popAt : evE C env (.popAt a b) s = (evE C env a s).bind fun p => (evE C env b p.2).bind fun q => match p.1, q.1 with
    | .obj n, .int i => match getO q.2 n with
      | some (.lst xs) => if 0 ≤ i ∧ i < 2 ^ 63 then match xs[i.toNat]? with
          | some d => match getO p.2 n with
            | some (.lst _) => some (d, setO q.2 n (some (.lst (xs.eraseIdx i.toNat))))
            | _ => none
          | none => none
        else none
      | _ => none
    | _, _ => none := by first | (simp only [evE]; done) | (simp only [evE]; rfl)
@[simp] theorem evE_app : evE C env (.app a b) s = (evE C env a s).bind fun p => (evE C env b p.2).bind fun q => match p.1 with
    | .obj n => match getO p.2 n, getO q.2 n with
      | some (.lst _), some (.lst xs) => if xs.length < ZL then some (.non, setO q.2 n (some (.lst (xs ++ [q.1])))) else none
      | _, _ => none
    | _ => none := by first | (simp only [evE]; done) | (simp only [evE]; rfl)
@[simp] theorem evE_ext : evE C env (.ext a b) s = (evE C env a s).bind fun p => (evE C env b p.2).bind fun q => match p.1, q.1 with
    | .obj n, .lst ys => match getO p.2 n, getO q.2 n with
      | some (.lst _), some (.lst xs) => if xs.length + ys.length ≤ ZL then some (.non, setO q.2 n (some (.lst (xs ++ ys)))) else none
      | _, _ => none
    | _, _ => none := by first | (simp only [evE]; done) | (simp only [evE]; rfl)
@[simp] theorem evE_newSort : evE C env (.newSort a) s = (evE C env a s).bind fun p => match p.1 with
    | .obj n => match getO p.2 n with
      | some (.lst xs) => if xs.length ≤ 60 then (keysOf xs).map fun ks => (.obj p.2.length, p.2 ++ [some (.lst ((sortK ks).map (·.2)))]) else none
      | _ => none
    | _ => none := by first | (simp only [evE]; done) | (simp only [evE]; rfl)
@[simp] theorem evE_lc : evE C env (.lc g it t e own) s = if ownOK g own = true then (evI C env it s).bind fun p => (srcGo (lcF C env g t e own) p.1 p.2).map fun q => (.lst q.1, q.2) else none := by simp only [evE]; rfl
@[simp] theorem evEs_nil : evEs C env .nil s = some ([], s) := by first | (simp only [evEs]; done) | (simp only [evEs]; rfl)
@[simp] theorem evEs_cons : evEs C env (.cons e es) s = (evE C env e s).bind fun p => (evEs C env es p.2).map fun q => (p.1 :: q.1, q.2) := by first | (simp only [evEs]; done) | (simp only [evEs]; rfl)
@[simp] theorem evOe_none : evOe C env .none s = some (none, s) := by first | (simp only [evOe]; done) | (simp only [evOe]; rfl)
@[simp] theorem evOe_some : evOe C env (.some e) s = (evE C env e s).bind fun p => match p.1 with
    | .int i => some (some i, p.2)
    | _ => none := by first | (simp only [evOe]; done) | (simp only [evOe]; rfl)
@[simp] theorem evT_yes : evT C env .yes s = some (true, s) := by first | (simp only [evT]; done) | (simp only [evT]; rfl)
@[simp] theorem evT_tru : evT C env (.tru e) s = (evE C env e s).bind fun p => (truD p.2 p.1).map fun b => (b, p.2) := by first | (simp only [evT]; done) | (simp only [evT]; rfl)
@[simp] theorem evT_val : evT C env (.val e) s = (evE C env e s).bind fun p => match p.1 with
    | .bl b => some (b, p.2)
    | _ => none := by first | (simp only [evT]; done) | (simp only [evT]; rfl)
@[simp] theorem evT_and : evT C env (.and a b) s = (evT C env a s).bind fun p => match p.1 with
    | true => evT C env b p.2
    | false => some (false, p.2) := by first | (simp only [evT]; done) | (simp only [evT]; rfl)
@[simp] theorem evT_or : evT C env (.or a b) s = (evT C env a s).bind fun p => match p.1 with
    | true => some (true, p.2)
    | false => evT C env b p.2 := by first | (simp only [evT]; done) | (simp only [evT]; rfl)
@[simp] theorem evT_not : evT C env (.not a) s = (evT C env a s).map fun p => (!p.1, p.2) := by first | (simp only [evT]; done) | (simp only [evT]; rfl)
@[simp] theorem evI_seq : evI C env (.seq e) s = (evE C env e s).bind fun p => (seqSrc p.2 p.1).map fun r => (r, p.2) := by first | (simp only [evI]; done) | (simp only [evI]; rfl)
@[simp] theorem evI_rng1 : evI C env (.rng1 e) s = (evE C env e s).bind fun p => match p.1 with
    | .int n => if -(ZL : Int) ≤ n ∧ n ≤ ZL then some (.vals (rgD n), p.2) else none
    | _ => none := by first | (simp only [evI]; done) | (simp only [evI]; rfl)
@[simp] theorem evI_rng2 : evI C env (.rng2 a b) s = (evE C env a s).bind fun p => (evE C env b p.2).bind fun q => match p.1, q.1 with
    | .int i, .int j => if -(ZL : Int) ≤ i ∧ i ≤ ZL ∧ -(ZL : Int) ≤ j ∧ j ≤ ZL then some (.vals (rg2D i j), q.2) else none
    | _, _ => none := by first | (simp only [evI]; done) | (simp only [evI]; rfl)
@[simp] theorem evI_zip : evI C env (.zip a b) s = (evE C env a s).bind fun p => (evE C env b p.2).bind fun q => (zipSrc p.1 q.1).map fun r => (r, q.2) := by first | (simp only [evI]; done) | (simp only [evI]; rfl)
@[simp] theorem evI_keys : evI C env (.keys i) s = none := by first | (simp only [evI]; done) | (simp only [evI]; rfl)
@[simp] theorem exSs_nil : exSs C .nil env s = some (.nx env s) := by first | (simp only [exSs]; done) | (simp only [exSs]; rfl)
@[simp] theorem exSs_cons : exSs C (.cons a r) env s = match exS C a env s with
    | some (.nx e1 s1) => exSs C r e1 s1
    | x => x := by first | (simp only [exSs]; done) | (simp only [exSs]; rfl)
@[simp] theorem exSs_frz : exSs C (.frz i r) env s = (frzS C.bs i env s).bind fun p => exSs C r p.1 p.2 := by first | (simp only [exSs]; done) | (simp only [exSs]; rfl)
@[simp] theorem exS_asg : exS C (.asg g e) env s = (evE C env e s).bind fun p => (asgG g p.1 env).map fun e1 => .nx e1 p.2 := by first | (simp only [exS]; done) | (simp only [exS]; rfl)
@[simp] theorem exS_par : exS C (.par i j a b) env s = (evE C env a s).bind fun p => (evE C env b p.2).map fun q => .nx ((env.set i (some p.1)).set j (some q.1)) q.2 := by first | (simp only [exS]; done) | (simp only [exS]; rfl)
@[simp] theorem exS_seti : exS C (.seti o i e) env s = (evE C env e s).bind fun p => (evE C env o p.2).bind fun q => (evE C env i q.2).bind fun r => match q.1, r.1 with
    | .obj n, .int k => match getO r.2 n with
      | some (.lst xs) => match L2.ixN xs.length k with
        | some j => some (.nx env (setO r.2 n (some (.lst (xs.set j p.1)))))
        | none => none
      | _ => none
    | _, _ => none := by first | (simp only [exS]; done) | (simp only [exS]; rfl)
@[simp] theorem exS_dput : exS C (.dput o k e) env s = (evE C env e s).bind fun p => (evE C env o p.2).bind fun q => (evE C env k q.2).bind fun r => match q.1 with
    | .obj n => match getO r.2 n with
      | some (.dK kvs) => if kvs.length < ZL then (toKey r.1).map fun k' => .nx env (setO r.2 n (some (.dK (putD kvs k' p.1)))) else none
      | some (.dT kvs) => if kvs.length < ZL then match r.1 with
          | .tup ds => (toKeys ds).map fun k' => .nx env (setO r.2 n (some (.dT (putD kvs k' p.1))))
          | _ => none
        else none
      | _ => none
    | _ => none := by first | (simp only [exS]; done) | (simp only [exS]; rfl)
@[simp] theorem exS_expr : exS C (.expr e) env s = (evE C env e s).map fun p => .nx env p.2 := by first | (simp only [exS]; done) | (simp only [exS]; rfl)
@[simp] theorem exS_ret : exS C (.ret e) env s = (evE C env e s).map fun p => .rt p.1 p.2 := by first | (simp only [exS]; done) | (simp only [exS]; rfl)
@[simp] theorem exS_ife : exS C (.ife t a b) env s = (evT C env t s).bind fun p => match p.1 with
    | true => exSs C a env p.2
    | false => exSs C b env p.2 := by first | (simp only [exS]; done) | (simp only [exS]; rfl)
@[simp] theorem exS_whl : exS C (.whl t b) env s = whlE C t b env s := by simp only [exS]; rfl
@[simp] theorem exS_for_ : exS C (.for_ g it b) env s = match it with
    | .keys i => (keySrc C.bs s env i).bind fun p => forE C g b p.1 env p.2
    | it' => (evI C env it' s).bind fun p => match p.1 with
      | .vals l => forE C g b l env p.2
      | .objl _ _ => none := by cases it <;> (simp only [exS]; rfl)
@[simp] theorem exS_never : exS C .never env s = none := by first | (simp only [exS]; done) | (simp only [exS]; rfl)
@[simp] theorem exS_pass : exS C .pass env s = some (.nx env s) := by first | (simp only [exS]; done) | (simp only [exS]; rfl)
@[simp] theorem exS_brk : exS C .brk env s = some (.bk env s) := by first | (simp only [exS]; done) | (simp only [exS]; rfl)
@[simp] theorem exS_cont : exS C .cont env s = some (.ct env s) := by first | (simp only [exS]; done) | (simp only [exS]; rfl)
end
end Fw

/-! Fw, part O: loops and comprehensions of the evaluator, by invariants. -/
namespace Fw
open PySem
section
variable {C : Cc} {env : En} {s : Sto} {g : G} {b : Ss} {t : T} {e : E} {own : List Nat} {α : Type}
theorem forE_inv (en : α → D) (I : List α → En → Sto → Prop) (l : List α) (h0 : I [] env s)
    (step : ∀ (p : List α) (x : α) (q : List α) (env : En) (s : Sto), l = p ++ x :: q → I p env s → ∃ e1 e2 s2, asgG g (en x) env = some e1 ∧ exSs C b e1 s = some (.nx e2 s2) ∧ I (p ++ [x]) e2 s2) :
    ∃ env' s', forE C g b (l.map en) env s = some (.nx env' s') ∧ I l env' s' := by
  obtain ⟨env', s', h1, h2⟩ := forV_inv (f := fun e s1 => exSs C b e s1) (g := g) en I l [] env s h0 fun p x q env s hl hI => by
    obtain ⟨e1, e2, s2, a, b, c⟩ := step p x q env s hl hI
    exact ⟨e1, e2, s2, a, .inl b, c⟩
  exact ⟨env', s', h1, h2⟩
theorem whlE_inv (I : Nat → En → Sto → Prop) (Q : En → Sto → Prop) (m : Nat) (hm : m < C.wf) (h0 : I m env s)
    (step : ∀ m env s, I m env s → (∃ s', evT C env t s = some (false, s') ∧ Q env s') ∨ (∃ s1 e2 s2 m2, evT C env t s = some (true, s1) ∧ exSs C b env s1 = some (.nx e2 s2) ∧ m2 < m ∧ I m2 e2 s2)) :
    ∃ env' s', whlE C t b env s = some (.nx env' s') ∧ Q env' s' :=
  while_inv (c := fun e s1 => evT C e t s1) (f := fun e s1 => exSs C b e s1) I Q C.wf m env s hm h0 fun m env s hI => by
    rcases step m env s hI with h | ⟨s1, e2, s2, m2, a, b, c, d⟩
    · exact .inl h
    · exact .inr ⟨s1, e2, s2, m2, a, .inl b, c, d⟩
theorem lc_map (en : α → D) (h : α → D) (l : List α) (hl : l.length ≤ 1000000) (hf : ∀ x ∈ l, lcF C env g t e own (en x) s = some (some (h x), s)) : srcGo (lcF C env g t e own) (.vals (l.map en)) s = some (l.map h, s) := by
  rw [srcGo_vals (by rw [List.length_map]; exact hl)]
  exact lcV_map en h l hf
theorem lc_filter (en : α → D) (h : α → Option D) (l : List α) (hl : l.length ≤ 1000000) (hf : ∀ x ∈ l, lcF C env g t e own (en x) s = some (h x, s)) : srcGo (lcF C env g t e own) (.vals (l.map en)) s = some (l.filterMap h, s) := by
  rw [srcGo_vals (by rw [List.length_map]; exact hl)]
  exact lcV_pure en h l hf
theorem lc_inv (en : α → D) (I : List α → List D → Sto → Prop) (l : List α) (hl : l.length ≤ 1000000) (h0 : I [] [] s)
    (step : ∀ (p : List α) (x : α) (q : List α) (acc : List D) (s : Sto), l = p ++ x :: q → I p acc s → ∃ o s', lcF C env g t e own (en x) s = some (o, s') ∧ I (p ++ [x]) (match o with | some d => acc ++ [d] | none => acc) s') :
    ∃ out s', srcGo (lcF C env g t e own) (.vals (l.map en)) s = some (out, s') ∧ I l out s' := by
  rw [srcGo_vals (by rw [List.length_map]; exact hl)]
  exact lcV_inv en I l [] [] h0 step
end
theorem join_len (sep : Str) (ys : List Str) : (Txt.join sep ys).length ≤ (ys.map (·.length)).sum + ys.length * sep.length := by
  show (Builtin.Str.glued sep ys).length ≤ _
  rw [StrLaws.glued_eq_join]
  exact StrLaws.join_length_le sep ys
theorem joinF_ok {α : Type} (x : Str) (f : α → Str) (l : List α) (s : Sto) (h : ((l.map f).map (·.length)).sum + (l.map f).length * x.length ≤ 1000000) : joinF (.str x) (.lst (l.map fun a => .str (f a))) s = some (.str (Txt.join x (l.map f)), s) := by
  have e : strsD (l.map fun a => .str (f a)) = some (l.map f) := by rw [← strs_map, List.map_map]; rfl
  simp only [joinF, e, Option.bind_some]
  exact if_pos h
theorem sum_le {α : Type} (f : α → Nat) (n : Nat) : ∀ l : List α, (∀ x ∈ l, f x ≤ n) → (l.map f).sum ≤ l.length * n
  | [], _ => Nat.zero_le _
  | x :: l, h => by
    have a := h x (List.mem_cons_self ..)
    have b := sum_le f n l fun y m => h y (List.mem_cons_of_mem _ m)
    rw [List.map_cons, List.sum_cons, List.length_cons, Nat.succ_mul]
    omega
/-- a join's length, each part at most n, at most m parts -/
theorem join_le {sep : Str} {ys : List Str} {n m k : Nat} (h : ∀ y ∈ ys, y.length ≤ n) (hm : ys.length ≤ m) (hs : sep.length ≤ k) : (ys.map (·.length)).sum + ys.length * sep.length ≤ m * (n + k) := by
  have a := sum_le (·.length) n ys h
  have b : ys.length * n ≤ m * n := Nat.mul_le_mul_right _ hm
  have c : ys.length * sep.length ≤ m * k := Nat.mul_le_mul hm hs
  rw [Nat.mul_add]
  omega
end Fw

/-! K92: the program in our syntax -/
namespace K92
open PySem Fw

/-- is_integer: 0 thing -/
def b0 : Ss := .cons (.ret (.and (.isI (.var 0) .int) (.not (.isI (.var 0) .bool)))) (.nil)
/-- integer_within: 0 thing, 1 low, 2 high -/
def b1 : Ss := .cons (.ret (.and (.call true 0 (Es.of [(.var 0)])) (.chn .le .le (.var 1) (.var 0) (.var 2)))) (.nil)
/-- side: 0 program, 1 yes -/
def b2 : Ss := .cons (.ret (.ife (.tru (.var 1)) (.idx (.var 0) (.int 3)) (.idx (.var 0) (.int 4)))) (.nil)
/-- part_at: 0 program, 1 way, 2 part, 3 yes -/
def b3_1 : Ss := .cons (.ife (.or (.val (.cmp .ne (.idx (.var 2) (.int 0)) (.str "look"))) (.not (.tru (.call true 1 (Es.of [(.var 3), (.int 0), (.int 1)]))))) (.cons (.never) (.nil)) (.nil)) (.cons (.asg (.name 2) (.call true 2 (Es.of [(.var 2), (.var 3)]))) (.nil))
def b3 : Ss := .cons (.asg (.name 2) (.var 0)) (.cons (.for_ (.name 3) (.seq (.var 1)) b3_1) (.cons (.ret (.var 2)) (.nil)))
/-- leaves_of: 0 program, 1 found, 2 way, 3 word -/
def b4_1 : E := (.tup (Es.of [(.bin .add (.tup (Es.of [(.int 0)])) (.var 2)), (.var 3)]))
def b4_2 : E := (.tup (Es.of [(.bin .add (.tup (Es.of [(.int 1)])) (.var 2)), (.var 3)]))
def b4 : Ss := .cons (.ife (.val (.cmp .eq (.idx (.var 0) (.int 0)) (.str "tell"))) (.cons (.ret (.tup (Es.of [(.tup (Es.of [(.tup .nil), (.idx (.var 0) (.int 1))]))]))) (.nil)) (.nil)) (.cons (.asg (.name 1) (.lc (.tup (Gs.of [(.name 2), (.name 3)])) (.seq (.call true 4 (Es.of [(.idx (.var 0) (.int 3))]))) .yes b4_2 [2, 3])) (.cons (.ret (.b1 .tup (.bin .add (.var 1) (.lc (.tup (Gs.of [(.name 2), (.name 3)])) (.seq (.call true 4 (Es.of [(.idx (.var 0) (.int 4))]))) .yes b4_1 [2, 3])))) (.nil)))
/-- looks_of: 0 program -/
def b5 : Ss := .cons (.ife (.val (.cmp .eq (.idx (.var 0) (.int 0)) (.str "tell"))) (.cons (.ret (.tup .nil)) (.nil)) (.nil)) (.cons (.ret (.bin .add (.bin .add (.tup (Es.of [(.tup (Es.of [(.idx (.var 0) (.int 1)), (.idx (.var 0) (.int 2))]))])) (.call true 5 (Es.of [(.idx (.var 0) (.int 3))]))) (.call true 5 (Es.of [(.idx (.var 0) (.int 4))])))) (.nil))
/-- names_of: 0 setting, 1 name, 2 _ -/
def b6_1 : E := (.var 1)
def b6 : Ss := .cons (.ret (.b1 .tup (.lc (.tup (Gs.of [(.name 1), (.name 2)])) (.seq (.idx (.var 0) (.int 2))) .yes b6_1 [1, 2]))) (.nil)
/-- look_in_words: 0 setting, 1 place, 2 marks, 3 yes, 4 told, 5 mark -/
def b7_1 : E := (.idx (.idx (.var 0) (.int 0)) (.var 5))
def b7 : Ss := .cons (.asg (.name 4) (.join (.str " or ") (.lc (.name 5) (.seq (.var 2)) .yes b7_1 [5]))) (.cons (.ret (.bin .add (.bin .add (.idx (.call true 6 (Es.of [(.var 0)])) (.var 1)) (.ife (.tru (.var 3)) (.str " shows ") (.str " shows no "))) (.var 4))) (.nil))
/-- way_words: 0 setting, 1 program, 2 way, 3 told, 4 yes -/
def b8_1 : Ss := .cons (.expr (.app (.var 3) (.call true 7 (Es.of [(.var 0), (.idx (.var 1) (.int 1)), (.idx (.var 1) (.int 2)), (.var 4)])))) (.cons (.asg (.name 1) (.ife (.tru (.var 4)) (.idx (.var 1) (.int 3)) (.idx (.var 1) (.int 4)))) (.nil))
def b8 : Ss := .cons (.asg (.name 3) (.newL .nil)) (.cons (.for_ (.name 4) (.seq (.var 2)) b8_1) (.frz 3 (.cons (.ret (.var 3)) (.nil))))
/-- in_words: 0 setting, 1 program, 2 lines, 3 way, 4 word, 5 told -/
def b9_1 : Ss := .cons (.asg (.name 5) (.call true 8 (Es.of [(.var 0), (.var 1), (.var 3)]))) (.cons (.expr (.app (.var 2) (.bin .add (.var 4) (.ife (.tru (.var 5)) (.bin .add (.str " if ") (.join (.str " and ") (.var 5))) (.str " always"))))) (.nil))
def b9 : Ss := .cons (.asg (.name 2) (.newL .nil)) (.cons (.for_ (.tup (Gs.of [(.name 3), (.name 4)])) (.seq (.call true 4 (Es.of [(.var 1)]))) b9_1) (.frz 2 (.cons (.ret (.var 2)) (.nil))))
/-- box_words: 0 setting, 1 box, 2 lines, 3 name, 4 marks, 5 mark -/
def b10_1 : E := (.idx (.idx (.var 0) (.int 0)) (.var 5))
def b10_2 : Ss := .cons (.expr (.app (.var 2) (.join (.str " ") (.bin .add (.lst (Es.of [(.var 3)])) (.lc (.name 5) (.seq (.var 4)) .yes b10_1 [5]))))) (.nil)
def b10 : Ss := .cons (.asg (.name 2) (.newL .nil)) (.cons (.for_ (.tup (Gs.of [(.name 3), (.name 4)])) (.zip (.call true 6 (Es.of [(.var 0)])) (.var 1)) b10_2) (.frz 2 (.cons (.ret (.var 2)) (.nil))))
/-- full_box: 0 setting -/
def b11 : Ss := .cons (.ret (.bin .mul (.tup (Es.of [(.tupRg (.b1 .len (.idx (.var 0) (.int 0))))])) (.b1 .len (.idx (.var 0) (.int 2))))) (.nil)
/-- narrowed: 0 box, 1 place, 2 marks, 3 yes, 4 left, 5 mark -/
def b12_1 : E := (.var 5)
def b12_2 : T := (.val (.cmp .eq (.cmp .isin (.var 5) (.var 2)) (.b1 .bool (.var 3))))
def b12 : Ss := .cons (.asg (.name 4) (.b1 .tup (.lc (.name 5) (.seq (.idx (.var 0) (.var 1))) b12_2 b12_1 [5]))) (.cons (.ret (.ife (.tru (.var 4)) (.bin .add (.bin .add (.slc (.var 0) .none (.some (.var 1))) (.tup (Es.of [(.var 4)]))) (.slc (.var 0) (.some (.bin .add (.var 1) (.int 1))) .none)) .non)) (.nil))
/-- way_box: 0 setting, 1 program, 2 way, 3 box, 4 yes -/
def b13_1 : Ss := .cons (.ife (.val (.cmp .notN (.var 3) .non)) (.cons (.asg (.name 3) (.call true 12 (Es.of [(.var 3), (.idx (.var 1) (.int 1)), (.idx (.var 1) (.int 2)), (.var 4)]))) (.nil)) (.nil)) (.cons (.asg (.name 1) (.call true 2 (Es.of [(.var 1), (.var 4)]))) (.nil))
def b13 : Ss := .cons (.expr (.call true 3 (Es.of [(.var 1), (.var 2)]))) (.cons (.asg (.name 3) (.call true 11 (Es.of [(.var 0)]))) (.cons (.for_ (.name 4) (.seq (.var 2)) b13_1) (.cons (.ret (.var 3)) (.nil))))
/-- _law_lamp: 0 script, 1 great, 2 mixed, 3 cell, 4 size -/
def b14_1 : Ss := .cons (.asg (.name 4) (.bin .mod (.b1 .abs (.b1 .int (.var 3))) (.bin .shl (.int 1) (.int 2000)))) (.cons (.asg (.name 2) (.bin .mod (.b1 .int (.bin .add (.bin .add (.bin .add (.bin .mul (.var 2) (.int 16807)) (.bin .mod (.var 4) (.int 999377))) (.bin .mul (.int 5) (.b1 .int (.cmp .lt (.var 3) (.int 0))))) (.int 1))) (.int 2147482501))) (.cons (.ife (.val (.cmp .ge (.var 4) (.bin .pow (.int 10) (.int 17)))) (.cons (.expr (.app (.var 1) (.var 4))) (.nil)) (.nil)) (.nil)))
def b14 : Ss := .cons (.par 1 2 (.newL .nil) (.int 131009)) (.cons (.for_ (.name 3) (.seq (.slc (.var 0) .none (.some (.int 45)))) b14_1) (.cons (.ret (.disp ["great", "mixed", "turns", "wonts"] (Es.of [(.var 1), (.var 2), (.int 0), .newK]))) (.nil)))
/-- _law_take: 0 lamp, 1 place, 2 many, 3 size, 4 wont -/
def b15 : Ss := .cons (.ife (.val (.cmp .lt (.var 2) (.int 2))) (.cons (.ret (.int 0)) (.nil)) (.nil)) (.cons (.ife (.val (.cmp .gt (.b1 .len (.dget (.var 0) (.str "great"))) (.int 0))) (.cons (.asg (.name 3) (.pop (.dget (.var 0) (.str "great")))) (.cons (.ife (.val (.cmp .ge (.var 3) (.var 2))) (.cons (.expr (.app (.dget (.var 0) (.str "great")) (.bin .fdiv (.var 3) (.var 2)))) (.nil)) (.nil)) (.cons (.ret (.bin .mod (.b1 .int (.var 3)) (.var 2))) (.nil)))) (.nil)) (.cons (.dput (.var 0) (.str "turns") (.bin .add (.dget (.var 0) (.str "turns")) (.int 1))) (.cons (.dput (.var 0) (.str "mixed") (.bin .mod (.b1 .int (.bin .add (.bin .add (.bin .mul (.dget (.var 0) (.str "mixed")) (.int 16807)) (.bin .mul (.dget (.var 0) (.str "turns")) (.int 62003))) (.int 5))) (.int 2147482501))) (.cons (.ife (.val (.dnin (.var 1) (.dget (.var 0) (.str "wonts")))) (.cons (.dput (.dget (.var 0) (.str "wonts")) (.var 1) (.bin .fdiv (.dget (.var 0) (.str "mixed")) (.int 13))) (.cons (.dput (.var 0) (.str "mixed") (.bin .mod (.b1 .int (.bin .add (.bin .mul (.dget (.var 0) (.str "mixed")) (.int 16807)) (.int 62003))) (.int 2147482501))) (.nil))) (.nil)) (.cons (.asg (.name 4) (.dget (.dget (.var 0) (.str "wonts")) (.var 1))) (.cons (.ife (.val (.cmp .lt (.bin .mod (.b1 .int (.var 4)) (.int 13)) (.int 3))) (.cons (.ret (.idx (.tup (Es.of [(.int 0), (.bin .sub (.var 2) (.int 1)), (.bin .mod (.b1 .int (.bin .fdiv (.var 4) (.int 13))) (.var 2))])) (.bin .mod (.b1 .int (.var 4)) (.int 13)))) (.nil)) (.nil)) (.cons (.ret (.bin .mod (.b1 .int (.bin .fdiv (.dget (.var 0) (.str "mixed")) (.int 13))) (.var 2))) (.nil))))))))
/-- _law_same: 0 told, 1 due, 2 at -/
def b16_1 : E := (.int 1)
def b16_2 : T := (.not (.tru (.call true 16 (Es.of [(.idx (.var 0) (.var 2)), (.idx (.var 1) (.var 2))]))))
def b16 : Ss := .cons (.ife (.or (.tru (.isI (.var 1) .tuple)) (.tru (.isI (.var 1) .list))) (.cons (.ife (.or (.val (.cmp .ne (.isI (.var 0) .tuple) (.isI (.var 1) .tuple))) (.or (.val (.cmp .ne (.isI (.var 0) .list) (.isI (.var 1) .list))) (.val (.cmp .ne (.b1 .len (.var 0)) (.b1 .len (.var 1)))))) (.cons (.ret (.bl false)) (.nil)) (.nil)) (.cons (.ret (.cmp .eq (.b1 .len (.lc (.name 2) (.rng1 (.b1 .len (.var 1))) b16_2 b16_1 [2])) (.int 0))) (.nil))) (.nil)) (.cons (.ife (.or (.val (.cmp .isN (.var 1) .non)) (.val (.cmp .isN (.var 0) .non))) (.cons (.ret (.and (.cmp .isN (.var 1) .non) (.cmp .isN (.var 0) .non))) (.nil)) (.nil)) (.cons (.ife (.or (.tru (.isI (.var 1) .str)) (.tru (.isI (.var 0) .str))) (.cons (.ret (.and (.isI (.var 1) .str) (.and (.isI (.var 0) .str) (.cmp .eq (.var 0) (.var 1))))) (.nil)) (.nil)) (.cons (.ife (.or (.tru (.isI (.var 1) .bool)) (.tru (.isI (.var 0) .bool))) (.cons (.ret (.and (.isI (.var 1) .bool) (.and (.isI (.var 0) .bool) (.cmp .eq (.var 0) (.var 1))))) (.nil)) (.nil)) (.cons (.ret (.and (.isI (.var 0) .int) (.cmp .eq (.var 0) (.var 1)))) (.nil)))))
/-- _law_setting: 0 lamp, 1 most, 2 many, 3 marks, 4 turn, 5 trays, 6 at, 7 names, 8 pool, 9 places -/
def b17_1 : E := (.tup (Es.of [(.idx (.var 8) (.var 6)), (.call false 15 (Es.of [(.var 0), (.str "tray"), (.b1 .len (.var 5))]))]))
def b17_2 : Ss := .cons (.expr (.app (.var 5) (.tup (Es.of [(.idx (.tup (Es.of [(.str "bag"), (.str "t2"), (.str "ring1")])) (.var 6)), (.idx (.tup (Es.of [(.str "any"), (.str "ring"), (.str "turn"), (.str "fixed"), (.str "any")])) (.call false 15 (Es.of [(.var 0), (.str "manner"), (.int 5)])))])))) (.nil)
def b17 : Ss := .cons (.asg (.name 2) (.bin .add (.int 1) (.call false 15 (Es.of [(.var 0), (.str "places"), (.var 1)])))) (.cons (.asg (.name 3) (.bin .add (.int 2) (.call false 15 (Es.of [(.var 0), (.str "marks"), (.ife (.val (.cmp .gt (.var 2) (.int 5))) (.int 1) (.ife (.val (.cmp .gt (.var 2) (.int 3))) (.int 2) (.int 4)))])))) (.cons (.asg (.name 4) (.call false 15 (Es.of [(.var 0), (.str "names"), (.int 5)]))) (.cons (.asg (.name 5) (.newL .nil)) (.cons (.for_ (.name 6) (.rng1 (.bin .add (.int 1) (.call false 15 (Es.of [(.var 0), (.str "trays"), (.int 3)])))) b17_2) (.cons (.asg (.name 7) (.slc (.tup (Es.of [(.str "red"), (.str "blue"), (.str "m3"), (.str "a"), (.str "green"), (.str "red"), (.str "blue"), (.str "m3"), (.str "a")])) (.some (.var 4)) (.some (.bin .add (.var 4) (.var 3))))) (.cons (.asg (.name 8) (.tup (Es.of [(.str "x1"), (.str "b"), (.str "w1"), (.str "p4"), (.str "q"), (.str "zz9"), (.str "k7"), (.str "eightlet")]))) (.cons (.asg (.name 9) (.lc (.name 6) (.rng1 (.var 2)) .yes b17_1 [6])) (.cons (.ret (.tup (Es.of [(.var 7), (.b1 .tup (.var 5)), (.b1 .tup (.var 9))]))) (.nil)))))))))
/-- _law_program: 0 lamp, 1 setting, 2 looks, 3 many, 4 marks, 5 parts, 6 at, 7 one, 8 deep, 9 other, 10 some, 11 yes, 12 no, 13 part, 14 mark -/
def b18_1 : E := (.var 14)
def b18_2 : T := (.val (.cmp .eq (.call false 15 (Es.of [(.var 0), (.str "mark"), (.int 2)])) (.int 0)))
def b18_3 : E := (.bin .shl (.int 1) (.idx (.var 13) (.int 0)))
def b18_4 : T := (.val (.cmp .gt (.b1 .len (.var 5)) (.int 1)))
def b18_5 : Ss := .cons (.asg (.name 5) (.newSort (.var 5))) (.cons (.asg (.name 7) (.popAt (.var 5) (.int 0))) (.cons (.asg (.name 6) (.call false 15 (Es.of [(.var 0), (.str "other"), (.b1 .len (.var 5))]))) (.cons (.asg (.name 8) (.bin .sub (.bin .add (.bin .shl (.int 1) (.bin .add (.int 1) (.max2 (.idx (.var 7) (.int 0)) (.idx (.idx (.var 5) (.var 6)) (.int 0))))) (.b1 .sum (.lc (.name 13) (.seq (.var 5)) .yes b18_3 [13]))) (.bin .shl (.int 1) (.idx (.idx (.var 5) (.var 6)) (.int 0))))) (.cons (.asg (.name 9) (.popAt (.var 5) (.ife (.val (.cmp .le (.var 8) (.int 256))) (.var 6) (.int 0)))) (.cons (.asg (.name 10) (.b1 .tup (.lc (.name 14) (.rng1 (.var 4)) b18_2 b18_1 [14]))) (.cons (.asg (.name 10) (.ife (.val (.chn .lt .lt (.int 0) (.b1 .len (.var 10)) (.var 4))) (.var 10) (.tup (Es.of [(.call false 15 (Es.of [(.var 0), (.str "one"), (.var 4)]))])))) (.cons (.asg (.tup (Gs.of [(.name 11), (.name 12)])) (.ife (.val (.cmp .eq (.call false 15 (Es.of [(.var 0), (.str "side"), (.int 2)])) (.int 0))) (.tup (Es.of [(.var 7), (.var 9)])) (.tup (Es.of [(.var 9), (.var 7)])))) (.cons (.expr (.app (.var 5) (.tup (Es.of [(.bin .add (.int 1) (.max2 (.idx (.var 7) (.int 0)) (.idx (.var 9) (.int 0)))), (.tup (Es.of [(.str "look"), (.call false 15 (Es.of [(.var 0), (.str "place"), (.var 3)])), (.var 10), (.idx (.var 11) (.int 1)), (.idx (.var 12) (.int 1))]))])))) (.nil)))))))))
def b18_6 : Ss := .cons (.expr (.app (.var 5) (.tup (Es.of [(.int 0), (.tup (Es.of [(.str "tell"), (.idx (.tup (Es.of [(.str "two"), (.str "few"), (.str "no"), (.str "w0"), (.str "longword")])) (.call false 15 (Es.of [(.var 0), (.str "word"), (.bin .add (.int 2) (.call false 15 (Es.of [(.var 0), (.str "words"), (.int 4)])))])))]))])))) (.nil)
def b18 : Ss := .cons (.par 3 4 (.b1 .len (.idx (.var 1) (.int 2))) (.b1 .len (.idx (.var 1) (.int 0)))) (.cons (.asg (.name 5) (.newL .nil)) (.cons (.for_ (.name 6) (.rng1 (.bin .add (.var 2) (.int 1))) b18_6) (.cons (.whl b18_4 b18_5) (.cons (.ret (.idx (.idx (.var 5) (.int 0)) (.int 1))) (.nil)))))
/-- _law_depth: 0 part -/
def b19 : Ss := .cons (.ret (.idx (.var 0) (.int 0))) (.nil)
/-- _law_leaves: 0 program, 1 told, 2 todo, 3 way, 4 part -/
def b20_1 : T := (.val (.cmp .gt (.b1 .len (.var 2)) (.int 0)))
def b20_2 : Ss := .cons (.asg (.tup (Gs.of [(.name 3), (.name 4)])) (.pop (.var 2))) (.cons (.ife (.val (.cmp .eq (.idx (.var 4) (.int 0)) (.str "tell"))) (.cons (.expr (.app (.var 1) (.tup (Es.of [(.var 3), (.idx (.var 4) (.int 1))])))) (.nil)) (.cons (.expr (.ext (.var 2) (.lst (Es.of [(.tup (Es.of [(.bin .add (.var 3) (.tup (Es.of [(.int 0)]))), (.idx (.var 4) (.int 4))])), (.tup (Es.of [(.bin .add (.var 3) (.tup (Es.of [(.int 1)]))), (.idx (.var 4) (.int 3))]))])))) (.nil))) (.nil))
def b20 : Ss := .cons (.par 1 2 (.newL .nil) (.newL (Es.of [(.tup (Es.of [(.tup .nil), (.var 0)]))]))) (.cons (.whl b20_1 b20_2) (.frz 1 (.cons (.ret (.var 1)) (.nil))))
/-- _law_looks: 0 program, 1 told, 2 todo, 3 part -/
def b21_1 : T := (.val (.cmp .gt (.b1 .len (.var 2)) (.int 0)))
def b21_2 : Ss := .cons (.asg (.name 3) (.pop (.var 2))) (.cons (.ife (.val (.cmp .eq (.idx (.var 3) (.int 0)) (.str "look"))) (.cons (.expr (.app (.var 1) (.tup (Es.of [(.idx (.var 3) (.int 1)), (.idx (.var 3) (.int 2))])))) (.cons (.expr (.ext (.var 2) (.lst (Es.of [(.idx (.var 3) (.int 4)), (.idx (.var 3) (.int 3))])))) (.nil))) (.nil)) (.nil))
def b21 : Ss := .cons (.par 1 2 (.newL .nil) (.newL (Es.of [(.var 0)]))) (.cons (.whl b21_1 b21_2) (.frz 1 (.cons (.ret (.var 1)) (.nil))))
/-- _law_said: 0 setting, 1 look, 2 yes, 3 marks, 4 mark -/
def b22_1 : E := (.idx (.idx (.var 0) (.int 0)) (.var 4))
def b22 : Ss := .cons (.asg (.name 3) (.join (.str " or ") (.lc (.name 4) (.seq (.idx (.var 1) (.int 1))) .yes b22_1 [4]))) (.cons (.ret (.bin .add (.bin .add (.idx (.idx (.idx (.var 0) (.int 2)) (.idx (.var 1) (.int 0))) (.int 0)) (.idx (.tup (Es.of [(.str " shows no "), (.str " shows ")])) (.var 2))) (.var 3))) (.nil))
/-- _law_ways: 0 setting, 1 program, 2 full, 3 told, 4 todo, 5 way, 6 part, 7 words, 8 box, 9 yes, 10 kept, 11 place, 12 mark -/
def b23_1 : E := (.var 12)
def b23_2 : T := (.val (.cmp .eq (.b1 .int (.cmp .isin (.var 12) (.idx (.var 6) (.int 2)))) (.var 9)))
def b23_3 : Ss := .cons (.asg (.name 10) .non) (.cons (.ife (.val (.cmp .notN (.var 8) .non)) (.cons (.asg (.name 10) (.newLst (.var 8))) (.cons (.seti (.var 10) (.idx (.var 6) (.int 1)) (.b1 .tup (.lc (.name 12) (.seq (.idx (.var 8) (.idx (.var 6) (.int 1)))) b23_2 b23_1 [12]))) (.frz 10 (.cons (.asg (.name 10) (.ife (.val (.cmp .eq (.b1 .len (.idx (.var 10) (.idx (.var 6) (.int 1)))) (.int 0))) .non (.var 10))) (.nil))))) (.nil)) (.cons (.expr (.app (.var 4) (.tup (Es.of [(.bin .add (.var 5) (.tup (Es.of [(.var 9)]))), (.idx (.var 6) (.bin .sub (.int 4) (.var 9))), (.bin .add (.var 7) (.lst (Es.of [(.call true 22 (Es.of [(.var 0), (.tup (Es.of [(.idx (.var 6) (.int 1)), (.idx (.var 6) (.int 2))])), (.var 9)]))]))), (.var 10)])))) (.nil)))
def b23_4 : T := (.val (.cmp .gt (.b1 .len (.var 4)) (.int 0)))
def b23_5 : Ss := .cons (.asg (.tup (Gs.of [(.name 5), (.name 6), (.name 7), (.name 8)])) (.pop (.var 4))) (.cons (.dput (.var 3) (.var 5) (.tup (Es.of [(.var 6), (.var 7), (.ife (.or (.val (.cmp .isN (.var 8) .non)) (.val (.cmp .isin (.tup .nil) (.var 8)))) .non (.b1 .tup (.var 8)))]))) (.cons (.ife (.val (.cmp .eq (.idx (.var 6) (.int 0)) (.str "look"))) (.cons (.for_ (.name 9) (.seq (.tup (Es.of [(.int 0), (.int 1)]))) b23_3) (.nil)) (.nil)) (.nil)))
def b23_6 : E := (.tupRg (.b1 .len (.idx (.var 0) (.int 0))))
def b23 : Ss := .cons (.asg (.name 2) (.lc (.name 11) (.seq (.idx (.var 0) (.int 2))) .yes b23_6 [11])) (.cons (.par 3 4 .newT (.newL (Es.of [(.tup (Es.of [(.tup .nil), (.var 1), (.lst .nil), (.var 2)]))]))) (.cons (.whl b23_4 b23_5) (.cons (.ret (.var 3)) (.nil))))
/-- _law_box: 0 lamp, 1 setting, 2 told, 3 place, 4 some, 5 mark -/
def b24_1 : E := (.var 5)
def b24_2 : T := (.val (.cmp .eq (.call false 15 (Es.of [(.var 0), (.str "let"), (.int 2)])) (.int 0)))
def b24_3 : Ss := .cons (.asg (.name 4) (.b1 .tup (.lc (.name 5) (.rng1 (.b1 .len (.idx (.var 1) (.int 0)))) b24_2 b24_1 [5]))) (.cons (.expr (.app (.var 2) (.ife (.val (.cmp .gt (.b1 .len (.var 4)) (.int 0))) (.var 4) (.tup (Es.of [(.call false 15 (Es.of [(.var 0), (.str "only"), (.b1 .len (.idx (.var 1) (.int 0)))]))]))))) (.nil))
def b24 : Ss := .cons (.asg (.name 2) (.newL .nil)) (.cons (.for_ (.name 3) (.seq (.idx (.var 1) (.int 2))) b24_3) (.frz 2 (.cons (.ret (.b1 .tup (.var 2))) (.nil))))
/-- _law_boxed: 0 setting, 1 box, 2 at, 3 mark -/
def b25_1 : E := (.idx (.idx (.var 0) (.int 0)) (.var 3))
def b25_2 : E := (.join (.str " ") (.bin .add (.lst (Es.of [(.idx (.idx (.idx (.var 0) (.int 2)) (.var 2)) (.int 0))])) (.lc (.name 3) (.seq (.idx (.var 1) (.var 2))) .yes b25_1 [3])))
def b25 : Ss := .cons (.ret (.lc (.name 2) (.rng1 (.b1 .len (.var 1))) .yes b25_2 [2])) (.nil)
/-- _law_asked: 0 lamp, 1 setting, 2 program, 3 ways, 4 leaves, 5 due, 6 told, 7 way, 8 part, 9 words, 10 box, 11 both, 12 word -/
def b26_1 : Ss := .cons (.asg (.tup (Gs.of [(.name 8), (.name 9), (.name 10)])) (.dget (.var 3) (.var 7))) (.cons (.asg (.name 6) (.tup (Es.of [(.call true 8 (Es.of [(.var 1), (.var 2), (.var 7)])), (.call true 3 (Es.of [(.var 2), (.var 7)])), (.callK true 13 [2, 1, 0] .nil (Es.of [(.var 7), (.var 2), (.var 1)]))]))) (.cons (.ife (.not (.tru (.call true 16 (Es.of [(.var 6), (.tup (Es.of [(.var 9), (.var 8), (.var 10)]))])))) (.cons (.ret (.bl false)) (.nil)) (.nil)) (.cons (.ife (.and (.val (.cmp .notN (.var 10) .non)) (.not (.tru (.call true 16 (Es.of [(.call true 10 (Es.of [(.var 1), (.var 10)])), (.call true 25 (Es.of [(.var 1), (.var 10)]))]))))) (.cons (.ret (.bl false)) (.nil)) (.nil)) (.cons (.ife (.val (.cmp .eq (.idx (.var 8) (.int 0)) (.str "look"))) (.cons (.asg (.name 11) (.tup (Es.of [(.call true 7 (Es.of [(.var 1), (.idx (.var 8) (.int 1)), (.idx (.var 8) (.int 2)), (.int 1)])), (.callK true 7 [3, 2, 1, 0] .nil (Es.of [(.int 0), (.idx (.var 8) (.int 2)), (.idx (.var 8) (.int 1)), (.var 1)]))]))) (.cons (.ife (.not (.tru (.call true 16 (Es.of [(.var 11), (.tup (Es.of [(.call true 22 (Es.of [(.var 1), (.slc (.var 8) (.some (.int 1)) (.some (.int 3))), (.int 1)])), (.call true 22 (Es.of [(.var 1), (.slc (.var 8) (.some (.int 1)) (.some (.int 3))), (.int 0)]))]))])))) (.cons (.ret (.bl false)) (.nil)) (.nil)) (.nil))) (.nil)) (.nil)))))
def b26_2 : E := (.bin .add (.var 12) (.ife (.val (.cmp .gt (.b1 .len (.var 7)) (.int 0))) (.bin .add (.str " if ") (.join (.str " and ") (.idx (.dget (.var 3) (.var 7)) (.int 1)))) (.str " always")))
def b26 : Ss := .cons (.asg (.tup (Gs.of [(.name 3), (.name 4)])) (.tup (Es.of [(.call false 23 (Es.of [(.var 1), (.var 2)])), (.call true 20 (Es.of [(.var 2)]))]))) (.cons (.asg (.name 5) (.lc (.tup (Gs.of [(.name 7), (.name 12)])) (.seq (.var 4)) .yes b26_2 [7, 12])) (.cons (.asg (.name 6) (.tup (Es.of [(.call true 9 (Es.of [(.var 1), (.var 2)])), (.call true 4 (Es.of [(.var 2)])), (.call true 5 (Es.of [(.var 2)]))]))) (.cons (.ife (.not (.tru (.call true 16 (Es.of [(.var 6), (.tup (Es.of [(.var 5), (.b1 .tup (.var 4)), (.b1 .tup (.call true 21 (Es.of [(.var 2)])))]))])))) (.cons (.ret (.bl false)) (.nil)) (.nil)) (.cons (.for_ (.name 7) (.keys 3) b26_1) (.cons (.asg (.name 10) (.call false 24 (Es.of [(.var 0), (.var 1)]))) (.cons (.ret (.call true 16 (Es.of [(.callK true 10 [1, 0] .nil (Es.of [(.var 10), (.var 1)])), (.call true 25 (Es.of [(.var 1), (.var 10)]))]))) (.nil)))))))
/-- _law_hand: 0 setting, 1 third, 2 two, 3 first, 4 row, 5 one, 6 told, 7 due, 8 wide, 9 more, 10 rest -/
def b27 : Ss := .cons (.asg (.name 0) (.tup (Es.of [(.tup (Es.of [(.str "red"), (.str "blue")])), (.tup (Es.of [(.tup (Es.of [(.str "bag"), (.str "any")])), (.tup (Es.of [(.str "wreath"), (.str "ring")]))])), (.tup (Es.of [(.tup (Es.of [(.str "b1"), (.int 0)])), (.tup (Es.of [(.str "b2"), (.int 0)])), (.tup (Es.of [(.str "b3"), (.int 0)])), (.tup (Es.of [(.str "w1"), (.int 1)])), (.tup (Es.of [(.str "w2"), (.int 1)])), (.tup (Es.of [(.str "w3"), (.int 1)]))]))]))) (.cons (.asg (.name 1) (.tup (Es.of [(.str "look"), (.int 2), (.tup (Es.of [(.int 0)])), (.tup (Es.of [(.str "tell"), (.str "two")])), (.tup (Es.of [(.str "tell"), (.str "few")]))]))) (.cons (.asg (.name 2) (.tup (Es.of [(.str "look"), (.int 0), (.tup (Es.of [(.int 0)])), (.tup (Es.of [(.str "look"), (.int 1), (.tup (Es.of [(.int 0)])), (.tup (Es.of [(.str "tell"), (.str "two")])), (.var 1)])), (.tup (Es.of [(.str "look"), (.int 1), (.tup (Es.of [(.int 0)])), (.var 1), (.tup (Es.of [(.str "tell"), (.str "few")]))]))]))) (.cons (.asg (.name 3) (.tup (Es.of [(.str "look"), (.int 3), (.tup (Es.of [(.int 0)])), (.tup (Es.of [(.str "tell"), (.str "red")])), (.var 2)]))) (.cons (.asg (.name 4) (.tup (Es.of [(.int 0), (.int 1), (.int 0), (.int 1), (.int 0), (.int 1)]))) (.cons (.asg (.name 5) (.call true 13 (Es.of [(.var 0), (.var 3), (.tup (Es.of [(.int 1)]))]))) (.cons (.asg (.name 6) (.tup (Es.of [(.call true 7 (Es.of [(.var 0), (.int 3), (.tup (Es.of [(.int 0)])), (.int 0)])), (.idx (.call true 9 (Es.of [(.var 0), (.var 2)])) (.int 1)), (.slc (.call true 10 (Es.of [(.var 0), (.var 5)])) (.some (.int 2)) (.some (.int 4))), (.callK true 9 [1, 0] .nil (Es.of [(.tup (Es.of [(.str "tell"), (.str "few")])), (.var 0)])), (.call true 8 (Es.of [(.var 0), (.var 2), (.tup (Es.of [(.int 0), (.int 1)]))])), (.callK true 8 [2, 1, 0] .nil (Es.of [(.tup .nil), (.var 2), (.var 0)]))]))) (.cons (.asg (.name 7) (.tup (Es.of [(.str "w1 shows no red"), (.str "two if b1 shows red and b2 shows no red and b3 shows red"), (.lst (Es.of [(.str "b3 red blue"), (.str "w1 red")])), (.lst (Es.of [(.str "few always")])), (.lst (Es.of [(.str "b1 shows no red"), (.str "b2 shows red")])), (.lst .nil)]))) (.cons (.asg (.name 8) (.tup (Es.of [(.tup (Es.of [(.str "a"), (.str "b"), (.str "c")])), (.tup (Es.of [(.tup (Es.of [(.str "t"), (.str "fixed")]))])), (.tup (Es.of [(.tup (Es.of [(.str "x"), (.int 0)]))]))]))) (.cons (.asg (.name 9) (.tup (Es.of [(.call true 7 (Es.of [(.var 8), (.int 0), (.tup (Es.of [(.int 0), (.int 2)])), (.int 1)])), (.call true 9 (Es.of [(.var 8), (.tup (Es.of [(.str "look"), (.int 0), (.tup (Es.of [(.int 0), (.int 2)])), (.tup (Es.of [(.str "tell"), (.str "y")])), (.tup (Es.of [(.str "look"), (.int 0), (.tup (Es.of [(.int 2)])), (.tup (Es.of [(.str "tell"), (.str "z")])), (.tup (Es.of [(.str "tell"), (.str "n")]))]))]))])), (.call true 10 (Es.of [(.var 8), (.tup (Es.of [(.tup (Es.of [(.int 0), (.int 1), (.int 2)]))]))]))]))) (.cons (.asg (.name 10) (.tup (Es.of [(.str "x shows a or c"), (.lst (Es.of [(.str "y if x shows a or c"), (.str "z if x shows no a or c and x shows c"), (.str "n if x shows no a or c and x shows no c")])), (.lst (Es.of [(.str "x a b c")]))]))) (.cons (.ret (.and (.call true 16 (Es.of [(.var 6), (.var 7)])) (.call true 16 (Es.of [(.var 9), (.var 10)])))) (.nil))))))))))))
/-- law: 0 script, 1 lamp, 2 turn, 3 setting -/
def b28_1 : Ss := .cons (.asg (.name 3) (.call false 17 (Es.of [(.var 1), (.int 8)]))) (.cons (.ife (.not (.tru (.call false 26 (Es.of [(.var 1), (.var 3), (.call false 18 (Es.of [(.var 1), (.var 3), (.call false 15 (Es.of [(.var 1), (.str "looks"), (.idx (.tup (Es.of [(.int 17), (.int 9), (.int 3)])) (.var 2))]))]))])))) (.cons (.ret (.bl false)) (.nil)) (.nil)) (.nil))
def b28 : Ss := .cons (.asg (.name 1) (.call false 14 (Es.of [(.var 0)]))) (.cons (.ife (.not (.tru (.call true 27 .nil))) (.cons (.ret (.bl false)) (.nil)) (.nil)) (.cons (.for_ (.name 2) (.rng1 (.int 3)) b28_1) (.cons (.ret (.bl true)) (.nil))))
def PD : Nat → Option Df
  | 0 => some ⟨1, 1, b0⟩
  | 1 => some ⟨3, 3, b1⟩
  | 2 => some ⟨2, 2, b2⟩
  | 3 => some ⟨2, 4, b3⟩
  | 4 => some ⟨1, 4, b4⟩
  | 5 => some ⟨1, 1, b5⟩
  | 6 => some ⟨1, 3, b6⟩
  | 7 => some ⟨4, 6, b7⟩
  | 8 => some ⟨3, 5, b8⟩
  | 9 => some ⟨2, 6, b9⟩
  | 10 => some ⟨2, 6, b10⟩
  | 11 => some ⟨1, 1, b11⟩
  | 12 => some ⟨4, 6, b12⟩
  | 13 => some ⟨3, 5, b13⟩
  | 14 => some ⟨1, 5, b14⟩
  | 15 => some ⟨3, 5, b15⟩
  | 16 => some ⟨2, 3, b16⟩
  | 17 => some ⟨2, 10, b17⟩
  | 18 => some ⟨3, 15, b18⟩
  | 19 => some ⟨1, 1, b19⟩
  | 20 => some ⟨1, 5, b20⟩
  | 21 => some ⟨1, 4, b21⟩
  | 22 => some ⟨3, 5, b22⟩
  | 23 => some ⟨2, 13, b23⟩
  | 24 => some ⟨2, 6, b24⟩
  | 25 => some ⟨2, 4, b25⟩
  | 26 => some ⟨3, 13, b26⟩
  | 27 => some ⟨0, 11, b27⟩
  | 28 => some ⟨1, 4, b28⟩
  | _ => none
theorem run0 (k : Nat) (ds : List D) (s : Sto) : run PD 200 (k + 1) 0 ds s = Df.go ⟨1, 1, b0⟩ (run PD 200 k) 200 ds s := rfl
theorem run1 (k : Nat) (ds : List D) (s : Sto) : run PD 200 (k + 1) 1 ds s = Df.go ⟨3, 3, b1⟩ (run PD 200 k) 200 ds s := rfl
theorem run2 (k : Nat) (ds : List D) (s : Sto) : run PD 200 (k + 1) 2 ds s = Df.go ⟨2, 2, b2⟩ (run PD 200 k) 200 ds s := rfl
theorem run3 (k : Nat) (ds : List D) (s : Sto) : run PD 200 (k + 1) 3 ds s = Df.go ⟨2, 4, b3⟩ (run PD 200 k) 200 ds s := rfl
theorem run4 (k : Nat) (ds : List D) (s : Sto) : run PD 200 (k + 1) 4 ds s = Df.go ⟨1, 4, b4⟩ (run PD 200 k) 200 ds s := rfl
theorem run5 (k : Nat) (ds : List D) (s : Sto) : run PD 200 (k + 1) 5 ds s = Df.go ⟨1, 1, b5⟩ (run PD 200 k) 200 ds s := rfl
theorem run6 (k : Nat) (ds : List D) (s : Sto) : run PD 200 (k + 1) 6 ds s = Df.go ⟨1, 3, b6⟩ (run PD 200 k) 200 ds s := rfl
theorem run7 (k : Nat) (ds : List D) (s : Sto) : run PD 200 (k + 1) 7 ds s = Df.go ⟨4, 6, b7⟩ (run PD 200 k) 200 ds s := rfl
theorem run8 (k : Nat) (ds : List D) (s : Sto) : run PD 200 (k + 1) 8 ds s = Df.go ⟨3, 5, b8⟩ (run PD 200 k) 200 ds s := rfl
theorem run9 (k : Nat) (ds : List D) (s : Sto) : run PD 200 (k + 1) 9 ds s = Df.go ⟨2, 6, b9⟩ (run PD 200 k) 200 ds s := rfl
theorem run10 (k : Nat) (ds : List D) (s : Sto) : run PD 200 (k + 1) 10 ds s = Df.go ⟨2, 6, b10⟩ (run PD 200 k) 200 ds s := rfl
theorem run11 (k : Nat) (ds : List D) (s : Sto) : run PD 200 (k + 1) 11 ds s = Df.go ⟨1, 1, b11⟩ (run PD 200 k) 200 ds s := rfl
theorem run12 (k : Nat) (ds : List D) (s : Sto) : run PD 200 (k + 1) 12 ds s = Df.go ⟨4, 6, b12⟩ (run PD 200 k) 200 ds s := rfl
theorem run13 (k : Nat) (ds : List D) (s : Sto) : run PD 200 (k + 1) 13 ds s = Df.go ⟨3, 5, b13⟩ (run PD 200 k) 200 ds s := rfl
theorem run14 (k : Nat) (ds : List D) (s : Sto) : run PD 200 (k + 1) 14 ds s = Df.go ⟨1, 5, b14⟩ (run PD 200 k) 200 ds s := rfl
theorem run15 (k : Nat) (ds : List D) (s : Sto) : run PD 200 (k + 1) 15 ds s = Df.go ⟨3, 5, b15⟩ (run PD 200 k) 200 ds s := rfl
theorem run16 (k : Nat) (ds : List D) (s : Sto) : run PD 200 (k + 1) 16 ds s = Df.go ⟨2, 3, b16⟩ (run PD 200 k) 200 ds s := rfl
theorem run17 (k : Nat) (ds : List D) (s : Sto) : run PD 200 (k + 1) 17 ds s = Df.go ⟨2, 10, b17⟩ (run PD 200 k) 200 ds s := rfl
theorem run18 (k : Nat) (ds : List D) (s : Sto) : run PD 200 (k + 1) 18 ds s = Df.go ⟨3, 15, b18⟩ (run PD 200 k) 200 ds s := rfl
theorem run19 (k : Nat) (ds : List D) (s : Sto) : run PD 200 (k + 1) 19 ds s = Df.go ⟨1, 1, b19⟩ (run PD 200 k) 200 ds s := rfl
theorem run20 (k : Nat) (ds : List D) (s : Sto) : run PD 200 (k + 1) 20 ds s = Df.go ⟨1, 5, b20⟩ (run PD 200 k) 200 ds s := rfl
theorem run21 (k : Nat) (ds : List D) (s : Sto) : run PD 200 (k + 1) 21 ds s = Df.go ⟨1, 4, b21⟩ (run PD 200 k) 200 ds s := rfl
theorem run22 (k : Nat) (ds : List D) (s : Sto) : run PD 200 (k + 1) 22 ds s = Df.go ⟨3, 5, b22⟩ (run PD 200 k) 200 ds s := rfl
theorem run23 (k : Nat) (ds : List D) (s : Sto) : run PD 200 (k + 1) 23 ds s = Df.go ⟨2, 13, b23⟩ (run PD 200 k) 200 ds s := rfl
theorem run24 (k : Nat) (ds : List D) (s : Sto) : run PD 200 (k + 1) 24 ds s = Df.go ⟨2, 6, b24⟩ (run PD 200 k) 200 ds s := rfl
theorem run25 (k : Nat) (ds : List D) (s : Sto) : run PD 200 (k + 1) 25 ds s = Df.go ⟨2, 4, b25⟩ (run PD 200 k) 200 ds s := rfl
theorem run26 (k : Nat) (ds : List D) (s : Sto) : run PD 200 (k + 1) 26 ds s = Df.go ⟨3, 13, b26⟩ (run PD 200 k) 200 ds s := rfl
theorem run27 (k : Nat) (ds : List D) (s : Sto) : run PD 200 (k + 1) 27 ds s = Df.go ⟨0, 11, b27⟩ (run PD 200 k) 200 ds s := rfl
theorem run28 (k : Nat) (ds : List D) (s : Sto) : run PD 200 (k + 1) 28 ds s = Df.go ⟨1, 4, b28⟩ (run PD 200 k) 200 ds s := rfl
end K92

/-! K92: the text keeps what the evaluator says -/
namespace K92
open PySem PySem.Spec PyProof.Rows L2 Fw

def topS (i : Nat) : Stmt := PySem.Challenge.pw_howeverlaid_k92_whole_words.main.body.getD i (.Pass ⟨0, 0, 0, 0⟩)
abbrev tp0 : Stmt := topS 5
abbrev Nm0 : List Str := ["thing"]
theorem sc0 : FnScope Nm0 ["thing"] (defScope tp0) := ⟨rfl, rfl, rfl, by decide +kernel, rfl, by decide +kernel, by decide +kernel⟩
abbrev tp1 : Stmt := topS 6
abbrev Nm1 : List Str := ["thing", "low", "high"]
theorem sc1 : FnScope Nm1 ["thing", "low", "high"] (defScope tp1) := ⟨rfl, rfl, rfl, by decide +kernel, rfl, by decide +kernel, by decide +kernel⟩
abbrev tp2 : Stmt := topS 8
abbrev Nm2 : List Str := ["program", "yes"]
theorem sc2 : FnScope Nm2 ["program", "yes"] (defScope tp2) := ⟨rfl, rfl, rfl, by decide +kernel, rfl, by decide +kernel, by decide +kernel⟩
abbrev tp3 : Stmt := topS 9
abbrev Nm3 : List Str := ["program", "way", "part", "yes"]
theorem sc3 : FnScope Nm3 ["program", "way"] (defScope tp3) := ⟨rfl, rfl, rfl, by decide +kernel, rfl, by decide +kernel, by decide +kernel⟩
abbrev tp4 : Stmt := topS 10
abbrev Nm4 : List Str := ["program", "found", "way", "word"]
theorem sc4 : FnScope Nm4 ["program"] (defScope tp4) := ⟨rfl, rfl, rfl, by decide +kernel, rfl, by decide +kernel, by decide +kernel⟩
abbrev tp5 : Stmt := topS 11
abbrev Nm5 : List Str := ["program"]
theorem sc5 : FnScope Nm5 ["program"] (defScope tp5) := ⟨rfl, rfl, rfl, by decide +kernel, rfl, by decide +kernel, by decide +kernel⟩
abbrev tp6 : Stmt := topS 13
abbrev Nm6 : List Str := ["setting", "name", "_"]
theorem sc6 : FnScope Nm6 ["setting"] (defScope tp6) := ⟨rfl, rfl, rfl, by decide +kernel, rfl, by decide +kernel, by decide +kernel⟩
abbrev tp7 : Stmt := topS 15
abbrev Nm7 : List Str := ["setting", "place", "marks", "yes", "told", "mark"]
theorem sc7 : FnScope Nm7 ["setting", "place", "marks", "yes"] (defScope tp7) := ⟨rfl, rfl, rfl, by decide +kernel, rfl, by decide +kernel, by decide +kernel⟩
abbrev tp8 : Stmt := topS 16
abbrev Nm8 : List Str := ["setting", "program", "way", "told", "yes"]
theorem sc8 : FnScope Nm8 ["setting", "program", "way"] (defScope tp8) := ⟨rfl, rfl, rfl, by decide +kernel, rfl, by decide +kernel, by decide +kernel⟩
abbrev tp9 : Stmt := topS 17
abbrev Nm9 : List Str := ["setting", "program", "lines", "way", "word", "told"]
theorem sc9 : FnScope Nm9 ["setting", "program"] (defScope tp9) := ⟨rfl, rfl, rfl, by decide +kernel, rfl, by decide +kernel, by decide +kernel⟩
abbrev tp10 : Stmt := topS 18
abbrev Nm10 : List Str := ["setting", "box", "lines", "name", "marks", "mark"]
theorem sc10 : FnScope Nm10 ["setting", "box"] (defScope tp10) := ⟨rfl, rfl, rfl, by decide +kernel, rfl, by decide +kernel, by decide +kernel⟩
abbrev tp11 : Stmt := topS 20
abbrev Nm11 : List Str := ["setting"]
theorem sc11 : FnScope Nm11 ["setting"] (defScope tp11) := ⟨rfl, rfl, rfl, by decide +kernel, rfl, by decide +kernel, by decide +kernel⟩
abbrev tp12 : Stmt := topS 21
abbrev Nm12 : List Str := ["box", "place", "marks", "yes", "left", "mark"]
theorem sc12 : FnScope Nm12 ["box", "place", "marks", "yes"] (defScope tp12) := ⟨rfl, rfl, rfl, by decide +kernel, rfl, by decide +kernel, by decide +kernel⟩
abbrev tp13 : Stmt := topS 22
abbrev Nm13 : List Str := ["setting", "program", "way", "box", "yes"]
theorem sc13 : FnScope Nm13 ["setting", "program", "way"] (defScope tp13) := ⟨rfl, rfl, rfl, by decide +kernel, rfl, by decide +kernel, by decide +kernel⟩
abbrev tp14 : Stmt := topS 24
abbrev Nm14 : List Str := ["script", "great", "mixed", "cell", "size"]
theorem sc14 : FnScope Nm14 ["script"] (defScope tp14) := ⟨rfl, rfl, rfl, by decide +kernel, rfl, by decide +kernel, by decide +kernel⟩
abbrev tp15 : Stmt := topS 25
abbrev Nm15 : List Str := ["lamp", "place", "many", "size", "wont"]
theorem sc15 : FnScope Nm15 ["lamp", "place", "many"] (defScope tp15) := ⟨rfl, rfl, rfl, by decide +kernel, rfl, by decide +kernel, by decide +kernel⟩
abbrev tp16 : Stmt := topS 26
abbrev Nm16 : List Str := ["told", "due", "at"]
theorem sc16 : FnScope Nm16 ["told", "due"] (defScope tp16) := ⟨rfl, rfl, rfl, by decide +kernel, rfl, by decide +kernel, by decide +kernel⟩
abbrev tp17 : Stmt := topS 27
abbrev Nm17 : List Str := ["lamp", "most", "many", "marks", "turn", "trays", "at", "names", "pool", "places"]
theorem sc17 : FnScope Nm17 ["lamp", "most"] (defScope tp17) := ⟨rfl, rfl, rfl, by decide +kernel, rfl, by decide +kernel, by decide +kernel⟩
abbrev tp18 : Stmt := topS 28
abbrev Nm18 : List Str := ["lamp", "setting", "looks", "many", "marks", "parts", "at", "one", "deep", "other", "some", "yes", "no", "part", "mark"]
theorem sc18 : FnScope Nm18 ["lamp", "setting", "looks"] (defScope tp18) := ⟨rfl, rfl, rfl, by decide +kernel, rfl, by decide +kernel, by decide +kernel⟩
abbrev tp19 : Stmt := topS 29
abbrev Nm19 : List Str := ["part"]
theorem sc19 : FnScope Nm19 ["part"] (defScope tp19) := ⟨rfl, rfl, rfl, by decide +kernel, rfl, by decide +kernel, by decide +kernel⟩
abbrev tp20 : Stmt := topS 30
abbrev Nm20 : List Str := ["program", "told", "todo", "way", "part"]
theorem sc20 : FnScope Nm20 ["program"] (defScope tp20) := ⟨rfl, rfl, rfl, by decide +kernel, rfl, by decide +kernel, by decide +kernel⟩
abbrev tp21 : Stmt := topS 31
abbrev Nm21 : List Str := ["program", "told", "todo", "part"]
theorem sc21 : FnScope Nm21 ["program"] (defScope tp21) := ⟨rfl, rfl, rfl, by decide +kernel, rfl, by decide +kernel, by decide +kernel⟩
abbrev tp22 : Stmt := topS 32
abbrev Nm22 : List Str := ["setting", "look", "yes", "marks", "mark"]
theorem sc22 : FnScope Nm22 ["setting", "look", "yes"] (defScope tp22) := ⟨rfl, rfl, rfl, by decide +kernel, rfl, by decide +kernel, by decide +kernel⟩
abbrev tp23 : Stmt := topS 33
abbrev Nm23 : List Str := ["setting", "program", "full", "told", "todo", "way", "part", "words", "box", "yes", "kept", "place", "mark"]
theorem sc23 : FnScope Nm23 ["setting", "program"] (defScope tp23) := ⟨rfl, rfl, rfl, by decide +kernel, rfl, by decide +kernel, by decide +kernel⟩
abbrev tp24 : Stmt := topS 34
abbrev Nm24 : List Str := ["lamp", "setting", "told", "place", "some", "mark"]
theorem sc24 : FnScope Nm24 ["lamp", "setting"] (defScope tp24) := ⟨rfl, rfl, rfl, by decide +kernel, rfl, by decide +kernel, by decide +kernel⟩
abbrev tp25 : Stmt := topS 35
abbrev Nm25 : List Str := ["setting", "box", "at", "mark"]
theorem sc25 : FnScope Nm25 ["setting", "box"] (defScope tp25) := ⟨rfl, rfl, rfl, by decide +kernel, rfl, by decide +kernel, by decide +kernel⟩
abbrev tp26 : Stmt := topS 36
abbrev Nm26 : List Str := ["lamp", "setting", "program", "ways", "leaves", "due", "told", "way", "part", "words", "box", "both", "word"]
theorem sc26 : FnScope Nm26 ["lamp", "setting", "program"] (defScope tp26) := ⟨rfl, rfl, rfl, by decide +kernel, rfl, by decide +kernel, by decide +kernel⟩
abbrev tp27 : Stmt := topS 37
abbrev Nm27 : List Str := ["setting", "third", "two", "first", "row", "one", "told", "due", "wide", "more", "rest"]
theorem sc27 : FnScope Nm27 [] (defScope tp27) := ⟨rfl, rfl, rfl, by decide +kernel, rfl, by decide +kernel, by decide +kernel⟩
abbrev tp28 : Stmt := topS 38
abbrev Nm28 : List Str := ["script", "lamp", "turn", "setting"]
theorem sc28 : FnScope Nm28 ["script"] (defScope tp28) := ⟨rfl, rfl, rfl, by decide +kernel, rfl, by decide +kernel, by decide +kernel⟩
theorem B_tuple : bootBuiltins "tuple" = some (.type (tyN .tuple)) := by decide +kernel
theorem B_list : bootBuiltins "list" = some (.type (tyN .list)) := by decide +kernel
theorem B_str : bootBuiltins "str" = some (.type (tyN .str)) := by decide +kernel
theorem B_int : bootBuiltins "int" = some (.type (tyN .int)) := by decide +kernel
theorem B_bool : bootBuiltins "bool" = some (.type (tyN .bool)) := by decide +kernel
/-- what is told of the defs at a level, and the builtins -/
structure Hyp (P : Program) (w : World) (K : PySem.W.Frag) (mg : Str → Option Value) (base : Heap) (k : Nat) : Prop where
  c0 : Ca P w K mg base k "is_integer" (SpF K (arOf PD 0) (run PD 200 k 0))
  c1 : Ca P w K mg base k "integer_within" (SpF K (arOf PD 1) (run PD 200 k 1))
  c2 : Ca P w K mg base k "side" (SpF K (arOf PD 2) (run PD 200 k 2))
  c3 : Ca P w K mg base k "part_at" (SpF K (arOf PD 3) (run PD 200 k 3))
  c4 : Ca P w K mg base k "leaves_of" (SpF K (arOf PD 4) (run PD 200 k 4))
  c5 : Ca P w K mg base k "looks_of" (SpF K (arOf PD 5) (run PD 200 k 5))
  c6 : Ca P w K mg base k "names_of" (SpF K (arOf PD 6) (run PD 200 k 6))
  c7 : Ca P w K mg base k "look_in_words" (SpF K (arOf PD 7) (run PD 200 k 7))
  c8 : Ca P w K mg base k "way_words" (SpF K (arOf PD 8) (run PD 200 k 8))
  c9 : Ca P w K mg base k "in_words" (SpF K (arOf PD 9) (run PD 200 k 9))
  c10 : Ca P w K mg base k "box_words" (SpF K (arOf PD 10) (run PD 200 k 10))
  c11 : Ca P w K mg base k "full_box" (SpF K (arOf PD 11) (run PD 200 k 11))
  c12 : Ca P w K mg base k "narrowed" (SpF K (arOf PD 12) (run PD 200 k 12))
  c13 : Ca P w K mg base k "way_box" (SpF K (arOf PD 13) (run PD 200 k 13))
  c14 : Ca P w K mg base k "_law_lamp" (SpF K (arOf PD 14) (run PD 200 k 14))
  c15 : Ca P w K mg base k "_law_take" (SpF K (arOf PD 15) (run PD 200 k 15))
  c16 : Ca P w K mg base k "_law_same" (SpF K (arOf PD 16) (run PD 200 k 16))
  c17 : Ca P w K mg base k "_law_setting" (SpF K (arOf PD 17) (run PD 200 k 17))
  c18 : Ca P w K mg base k "_law_program" (SpF K (arOf PD 18) (run PD 200 k 18))
  c19 : Ca P w K mg base k "_law_depth" (SpF K (arOf PD 19) (run PD 200 k 19))
  c20 : Ca P w K mg base k "_law_leaves" (SpF K (arOf PD 20) (run PD 200 k 20))
  c21 : Ca P w K mg base k "_law_looks" (SpF K (arOf PD 21) (run PD 200 k 21))
  c22 : Ca P w K mg base k "_law_said" (SpF K (arOf PD 22) (run PD 200 k 22))
  c23 : Ca P w K mg base k "_law_ways" (SpF K (arOf PD 23) (run PD 200 k 23))
  c24 : Ca P w K mg base k "_law_box" (SpF K (arOf PD 24) (run PD 200 k 24))
  c25 : Ca P w K mg base k "_law_boxed" (SpF K (arOf PD 25) (run PD 200 k 25))
  c26 : Ca P w K mg base k "_law_asked" (SpF K (arOf PD 26) (run PD 200 k 26))
  c27 : Ca P w K mg base k "_law_hand" (SpF K (arOf PD 27) (run PD 200 k 27))
  c28 : Ca P w K mg base k "law" (SpF K (arOf PD 28) (run PD 200 k 28))
  k10_1_0_0 : Ck P w K mg base k "box_words" (SpF K (arOf PD 10) (run PD 200 k 10)) ["box", "setting"] 0 [1, 0]
  k7_3_2_1_0_0 : Ck P w K mg base k "look_in_words" (SpF K (arOf PD 7) (run PD 200 k 7)) ["yes", "marks", "place", "setting"] 0 [3, 2, 1, 0]
  k13_2_1_0_0 : Ck P w K mg base k "way_box" (SpF K (arOf PD 13) (run PD 200 k 13)) ["way", "program", "setting"] 0 [2, 1, 0]
  k9_1_0_0 : Ck P w K mg base k "in_words" (SpF K (arOf PD 9) (run PD 200 k 9)) ["program", "setting"] 0 [1, 0]
  k8_2_1_0_0 : Ck P w K mg base k "way_words" (SpF K (arOf PD 8) (run PD 200 k 8)) ["way", "program", "setting"] 0 [2, 1, 0]
  s19 : KeyD K mg "_law_depth"
  n_abs : mg "abs" = none
  n_bool : mg "bool" = none
  n_int : mg "int" = none
  n_isinstance : mg "isinstance" = none
  n_len : mg "len" = none
  n_list : mg "list" = none
  n_max : mg "max" = none
  n_range : mg "range" = none
  n_sorted : mg "sorted" = none
  n_str : mg "str" = none
  n_sum : mg "sum" = none
  n_tuple : mg "tuple" = none
  n_zip : mg "zip" = none
section
variable {P : Program} {w : World} {K : PySem.W.Frag} {mg : Str → Option Value} {base : Heap} {k : Nat}
theorem w0 (H : Hyp P w K mg base k) {f : Addr} {fd : FuncData} (F : Fun K "is_integer" "is_integer" tp0 f fd) : FnOk P w K mg base CX0 (k + 1) f fd ["thing"] (SpF K (arOf PD 0) (run PD 200 (k + 1) 0)) :=
  fun_fw F sc0 (df := ⟨1, 1, b0⟩) rfl rfl rfl fun cdv A outer s Hh E hr =>
    show PSs _ _ (rdSs _ b0) from
    (dss (ds_ret (d_and (d_isi rfl H.n_isinstance rfl H.n_int B_int (d_var rfl)) (d_one (d_not (d_isi rfl H.n_isinstance rfl H.n_bool B_bool (d_var rfl)))))) dss_nil)
theorem w1 (H : Hyp P w K mg base k) {f : Addr} {fd : FuncData} (F : Fun K "integer_within" "integer_within" tp1 f fd) : FnOk P w K mg base CX0 (k + 1) f fd ["thing", "low", "high"] (SpF K (arOf PD 1) (run PD 200 (k + 1) 1)) :=
  fun_fw F sc1 (df := ⟨3, 3, b1⟩) rfl rfl rfl fun cdv A outer s Hh E hr =>
    show PSs _ _ (rdSs _ b1) from
    (dss (ds_ret (d_and (d_call H.c0 hr rfl (d_cons (d_var rfl) d_nil)) (d_one (d_chn (o := .le) (o' := .le) hr rfl rfl (d_var rfl) (d_var rfl) (d_var rfl))))) dss_nil)
theorem w2 (H : Hyp P w K mg base k) {f : Addr} {fd : FuncData} (F : Fun K "side" "side" tp2 f fd) : FnOk P w K mg base CX0 (k + 1) f fd ["program", "yes"] (SpF K (arOf PD 2) (run PD 200 (k + 1) 2)) :=
  fun_fw F sc2 (df := ⟨2, 2, b2⟩) rfl rfl rfl fun cdv A outer s Hh E hr =>
    show PSs _ _ (rdSs _ b2) from
    (dss (ds_ret (d_ife (dt_tru (d_var rfl)) (d_idx (d_var rfl) d_int) (d_idx (d_var rfl) d_int))) dss_nil)
theorem w3 (H : Hyp P w K mg base k) {f : Addr} {fd : FuncData} (F : Fun K "part_at" "part_at" tp3 f fd) : FnOk P w K mg base CX0 (k + 1) f fd ["program", "way"] (SpF K (arOf PD 3) (run PD 200 (k + 1) 3)) :=
  fun_fw F sc3 (df := ⟨2, 4, b3⟩) rfl rfl rfl fun cdv A outer s Hh E hr =>
    show PSs _ _ (rdSs _ b3) from
    (dss (ds_set sc3.nd rfl (by first | exact .inl rfl | exact .inr rfl) (d_var rfl)) (dss (ds_for PassesOwn.never rfl (di_seq (d_var rfl)) (dg_name sc3.nd rfl (by first | exact .inl rfl | exact .inr rfl)) (dss (ds_if (dt_bop (dw_or (dt_cmp (o := .ne) hr rfl (d_idx (d_var rfl) d_int) d_str) (dw_or1 (dt_not (dt_tru (d_call H.c1 hr rfl (d_cons (d_var rfl) (d_cons d_int (d_cons d_int d_nil))))))))) (dss ds_never dss_nil) dss_nil) (dss (ds_set sc3.nd rfl (by first | exact .inl rfl | exact .inr rfl) (d_call H.c2 hr rfl (d_cons (d_var rfl) (d_cons (d_var rfl) d_nil)))) dss_nil))) (dss (ds_ret (d_var rfl)) dss_nil)))
theorem w4 (H : Hyp P w K mg base k) {f : Addr} {fd : FuncData} (F : Fun K "leaves_of" "leaves_of" tp4 f fd) : FnOk P w K mg base CX0 (k + 1) f fd ["program"] (SpF K (arOf PD 4) (run PD 200 (k + 1) 4)) :=
  fun_fw F sc4 (df := ⟨1, 4, b4⟩) rfl rfl rfl fun cdv A outer s Hh E hr =>
    show PSs _ _ (rdSs _ b4) from
    (dss (ds_if (dt_cmp (o := .eq) hr rfl (d_idx (d_var rfl) d_int) d_str) (dss (ds_ret (d_tup (d_cons (d_tup (d_cons (d_tup d_nil) (d_cons (d_idx (d_var rfl) d_int) d_nil))) d_nil))) dss_nil) dss_nil) (dss (ds_setLc [("way", 2), ("word", 3)] rfl sc4.nd rfl rfl (blkOk_by rfl) (di_seq (d_call H.c4 hr rfl (d_cons (d_idx (d_var rfl) d_int) d_nil))) (fun _ _ _ _ _ => (dg_tup rfl (dg_cons (dg_name sc4.nd rfl (by first | exact .inl rfl | exact .inr rfl)) (dg_cons (dg_name sc4.nd rfl (by first | exact .inl rfl | exact .inr rfl)) dg_nil)))) (fun _ _ _ _ _ => dts_nil) (fun _ _ _ _ _ => (d_tup (d_cons (d_bin (o := .add) rfl (d_tup (d_cons d_int d_nil)) (d_var rfl)) (d_cons (d_var rfl) d_nil))))) (dss (ds_ret (d_toTup rfl H.n_tuple (d_bin (o := .add) rfl (d_var rfl) (d_lc [("way", 2), ("word", 3)] rfl sc4.nd (blkOk_by rfl) (di_seq (d_call H.c4 hr rfl (d_cons (d_idx (d_var rfl) d_int) d_nil))) (fun _ _ _ _ _ => (dg_tup rfl (dg_cons (dg_name sc4.nd rfl (by first | exact .inl rfl | exact .inr rfl)) (dg_cons (dg_name sc4.nd rfl (by first | exact .inl rfl | exact .inr rfl)) dg_nil)))) (fun _ _ _ _ _ => dts_nil) (fun _ _ _ _ _ => (d_tup (d_cons (d_bin (o := .add) rfl (d_tup (d_cons d_int d_nil)) (d_var rfl)) (d_cons (d_var rfl) d_nil)))))))) dss_nil)))
theorem w5 (H : Hyp P w K mg base k) {f : Addr} {fd : FuncData} (F : Fun K "looks_of" "looks_of" tp5 f fd) : FnOk P w K mg base CX0 (k + 1) f fd ["program"] (SpF K (arOf PD 5) (run PD 200 (k + 1) 5)) :=
  fun_fw F sc5 (df := ⟨1, 1, b5⟩) rfl rfl rfl fun cdv A outer s Hh E hr =>
    show PSs _ _ (rdSs _ b5) from
    (dss (ds_if (dt_cmp (o := .eq) hr rfl (d_idx (d_var rfl) d_int) d_str) (dss (ds_ret (d_tup d_nil)) dss_nil) dss_nil) (dss (ds_ret (d_bin (o := .add) rfl (d_bin (o := .add) rfl (d_tup (d_cons (d_tup (d_cons (d_idx (d_var rfl) d_int) (d_cons (d_idx (d_var rfl) d_int) d_nil))) d_nil)) (d_call H.c5 hr rfl (d_cons (d_idx (d_var rfl) d_int) d_nil))) (d_call H.c5 hr rfl (d_cons (d_idx (d_var rfl) d_int) d_nil)))) dss_nil))
theorem w6 (H : Hyp P w K mg base k) {f : Addr} {fd : FuncData} (F : Fun K "names_of" "names_of" tp6 f fd) : FnOk P w K mg base CX0 (k + 1) f fd ["setting"] (SpF K (arOf PD 6) (run PD 200 (k + 1) 6)) :=
  fun_fw F sc6 (df := ⟨1, 3, b6⟩) rfl rfl rfl fun cdv A outer s Hh E hr =>
    show PSs _ _ (rdSs _ b6) from
    (dss (ds_ret (d_toTup rfl H.n_tuple (d_lc [("name", 1), ("_", 2)] rfl sc6.nd (blkOk_by rfl) (di_seq (d_idx (d_var rfl) d_int)) (fun _ _ _ _ _ => (dg_tup rfl (dg_cons (dg_name sc6.nd rfl (by first | exact .inl rfl | exact .inr rfl)) (dg_cons (dg_name sc6.nd rfl (by first | exact .inl rfl | exact .inr rfl)) dg_nil)))) (fun _ _ _ _ _ => dts_nil) (fun _ _ _ _ _ => (d_var rfl))))) dss_nil)
theorem w7 (H : Hyp P w K mg base k) {f : Addr} {fd : FuncData} (F : Fun K "look_in_words" "look_in_words" tp7 f fd) : FnOk P w K mg base CX0 (k + 1) f fd ["setting", "place", "marks", "yes"] (SpF K (arOf PD 7) (run PD 200 (k + 1) 7)) :=
  fun_fw F sc7 (df := ⟨4, 6, b7⟩) rfl rfl rfl fun cdv A outer s Hh E hr =>
    show PSs _ _ (rdSs _ b7) from
    (dss (ds_set sc7.nd rfl (by first | exact .inl rfl | exact .inr rfl) (d_join d_str (d_lc [("mark", 5)] rfl sc7.nd (blkOk_by rfl) (di_seq (d_var rfl)) (fun _ _ _ _ _ => (dg_name sc7.nd rfl (by first | exact .inl rfl | exact .inr rfl))) (fun _ _ _ _ _ => dts_nil) (fun _ _ _ _ _ => (d_idx (d_idx (d_var rfl) d_int) (d_var rfl)))))) (dss (ds_ret (d_bin (o := .add) rfl (d_bin (o := .add) rfl (d_idx (d_call H.c6 hr rfl (d_cons (d_var rfl) d_nil)) (d_var rfl)) (d_ife (dt_tru (d_var rfl)) d_str d_str)) (d_var rfl))) dss_nil))
theorem w8 (H : Hyp P w K mg base k) {f : Addr} {fd : FuncData} (F : Fun K "way_words" "way_words" tp8 f fd) : FnOk P w K mg base CX0 (k + 1) f fd ["setting", "program", "way"] (SpF K (arOf PD 8) (run PD 200 (k + 1) 8)) :=
  fun_fw F sc8 (df := ⟨3, 5, b8⟩) rfl rfl rfl fun cdv A outer s Hh E hr =>
    show PSs _ _ (rdSs _ b8) from
    (dss (ds_set sc8.nd rfl (by first | exact .inl rfl | exact .inr rfl) (d_newL d_nil)) (dss (ds_for PassesOwn.never rfl (di_seq (d_var rfl)) (dg_name sc8.nd rfl (by first | exact .inl rfl | exact .inr rfl)) (dss (ds_expr (d_app (d_var rfl) (d_call H.c7 hr rfl (d_cons (d_var rfl) (d_cons (d_idx (d_var rfl) d_int) (d_cons (d_idx (d_var rfl) d_int) (d_cons (d_var rfl) d_nil))))))) (dss (ds_set sc8.nd rfl (by first | exact .inl rfl | exact .inr rfl) (d_ife (dt_tru (d_var rfl)) (d_idx (d_var rfl) d_int) (d_idx (d_var rfl) d_int))) dss_nil))) (dss_frz (dss (ds_ret (d_var rfl)) dss_nil))))
theorem w9 (H : Hyp P w K mg base k) {f : Addr} {fd : FuncData} (F : Fun K "in_words" "in_words" tp9 f fd) : FnOk P w K mg base CX0 (k + 1) f fd ["setting", "program"] (SpF K (arOf PD 9) (run PD 200 (k + 1) 9)) :=
  fun_fw F sc9 (df := ⟨2, 6, b9⟩) rfl rfl rfl fun cdv A outer s Hh E hr =>
    show PSs _ _ (rdSs _ b9) from
    (dss (ds_set sc9.nd rfl (by first | exact .inl rfl | exact .inr rfl) (d_newL d_nil)) (dss (ds_for PassesOwn.never rfl (di_seq (d_call H.c4 hr rfl (d_cons (d_var rfl) d_nil))) (dg_tup rfl (dg_cons (dg_name sc9.nd rfl (by first | exact .inl rfl | exact .inr rfl)) (dg_cons (dg_name sc9.nd rfl (by first | exact .inl rfl | exact .inr rfl)) dg_nil))) (dss (ds_set sc9.nd rfl (by first | exact .inl rfl | exact .inr rfl) (d_call H.c8 hr rfl (d_cons (d_var rfl) (d_cons (d_var rfl) (d_cons (d_var rfl) d_nil))))) (dss (ds_expr (d_app (d_var rfl) (d_bin (o := .add) rfl (d_var rfl) (d_ife (dt_tru (d_var rfl)) (d_bin (o := .add) rfl d_str (d_join d_str (d_var rfl))) d_str)))) dss_nil))) (dss_frz (dss (ds_ret (d_var rfl)) dss_nil))))
theorem w10 (H : Hyp P w K mg base k) {f : Addr} {fd : FuncData} (F : Fun K "box_words" "box_words" tp10 f fd) : FnOk P w K mg base CX0 (k + 1) f fd ["setting", "box"] (SpF K (arOf PD 10) (run PD 200 (k + 1) 10)) :=
  fun_fw F sc10 (df := ⟨2, 6, b10⟩) rfl rfl rfl fun cdv A outer s Hh E hr =>
    show PSs _ _ (rdSs _ b10) from
    (dss (ds_set sc10.nd rfl (by first | exact .inl rfl | exact .inr rfl) (d_newL d_nil)) (dss (ds_for PassesOwn.never rfl (di_zip rfl H.n_zip (d_call H.c6 hr rfl (d_cons (d_var rfl) d_nil)) (d_var rfl)) (dg_tup rfl (dg_cons (dg_name sc10.nd rfl (by first | exact .inl rfl | exact .inr rfl)) (dg_cons (dg_name sc10.nd rfl (by first | exact .inl rfl | exact .inr rfl)) dg_nil))) (dss (ds_expr (d_app (d_var rfl) (d_join d_str (d_bin (o := .add) rfl (d_lst (d_cons (d_var rfl) d_nil)) (d_lc [("mark", 5)] rfl sc10.nd (blkOk_by rfl) (di_seq (d_var rfl)) (fun _ _ _ _ _ => (dg_name sc10.nd rfl (by first | exact .inl rfl | exact .inr rfl))) (fun _ _ _ _ _ => dts_nil) (fun _ _ _ _ _ => (d_idx (d_idx (d_var rfl) d_int) (d_var rfl)))))))) dss_nil)) (dss_frz (dss (ds_ret (d_var rfl)) dss_nil))))
theorem w11 (H : Hyp P w K mg base k) {f : Addr} {fd : FuncData} (F : Fun K "full_box" "full_box" tp11 f fd) : FnOk P w K mg base CX0 (k + 1) f fd ["setting"] (SpF K (arOf PD 11) (run PD 200 (k + 1) 11)) :=
  fun_fw F sc11 (df := ⟨1, 1, b11⟩) rfl rfl rfl fun cdv A outer s Hh E hr =>
    show PSs _ _ (rdSs _ b11) from
    (dss (ds_ret (d_bin (o := .mul) rfl (d_tup (d_cons (d_tupRg rfl rfl H.n_tuple rfl H.n_range (d_len rfl H.n_len (d_idx (d_var rfl) d_int))) d_nil)) (d_len rfl H.n_len (d_idx (d_var rfl) d_int)))) dss_nil)
theorem w12 (H : Hyp P w K mg base k) {f : Addr} {fd : FuncData} (F : Fun K "narrowed" "narrowed" tp12 f fd) : FnOk P w K mg base CX0 (k + 1) f fd ["box", "place", "marks", "yes"] (SpF K (arOf PD 12) (run PD 200 (k + 1) 12)) :=
  fun_fw F sc12 (df := ⟨4, 6, b12⟩) rfl rfl rfl fun cdv A outer s Hh E hr =>
    show PSs _ _ (rdSs _ b12) from
    (dss (ds_set sc12.nd rfl (by first | exact .inl rfl | exact .inr rfl) (d_toTup rfl H.n_tuple (d_lc [("mark", 5)] rfl sc12.nd (blkOk_by rfl) (di_seq (d_idx (d_var rfl) (d_var rfl))) (fun _ _ _ _ _ => (dg_name sc12.nd rfl (by first | exact .inl rfl | exact .inr rfl))) (fun _ _ _ _ _ => (dts_one (dt_cmp (o := .eq) hr rfl (d_cmp (o := .isin) hr rfl (d_var rfl) (d_var rfl)) (d_toBool rfl H.n_bool (d_var rfl))))) (fun _ _ _ _ _ => (d_var rfl))))) (dss (ds_ret (d_ife (dt_tru (d_var rfl)) (d_bin (o := .add) rfl (d_bin (o := .add) rfl (d_slc (d_var rfl) d_o0 (d_o1 (d_var rfl))) (d_tup (d_cons (d_var rfl) d_nil))) (d_slc (d_var rfl) (d_o1 (d_bin (o := .add) rfl (d_var rfl) d_int)) d_o0)) d_none)) dss_nil))
theorem w13 (H : Hyp P w K mg base k) {f : Addr} {fd : FuncData} (F : Fun K "way_box" "way_box" tp13 f fd) : FnOk P w K mg base CX0 (k + 1) f fd ["setting", "program", "way"] (SpF K (arOf PD 13) (run PD 200 (k + 1) 13)) :=
  fun_fw F sc13 (df := ⟨3, 5, b13⟩) rfl rfl rfl fun cdv A outer s Hh E hr =>
    show PSs _ _ (rdSs _ b13) from
    (dss (ds_expr (d_call H.c3 hr rfl (d_cons (d_var rfl) (d_cons (d_var rfl) d_nil)))) (dss (ds_set sc13.nd rfl (by first | exact .inl rfl | exact .inr rfl) (d_call H.c11 hr rfl (d_cons (d_var rfl) d_nil))) (dss (ds_for PassesOwn.never rfl (di_seq (d_var rfl)) (dg_name sc13.nd rfl (by first | exact .inl rfl | exact .inr rfl)) (dss (ds_if (dt_cmp (o := .notN) hr rfl (d_var rfl) d_none) (dss (ds_set sc13.nd rfl (by first | exact .inl rfl | exact .inr rfl) (d_call H.c12 hr rfl (d_cons (d_var rfl) (d_cons (d_idx (d_var rfl) d_int) (d_cons (d_idx (d_var rfl) d_int) (d_cons (d_var rfl) d_nil)))))) dss_nil) dss_nil) (dss (ds_set sc13.nd rfl (by first | exact .inl rfl | exact .inr rfl) (d_call H.c2 hr rfl (d_cons (d_var rfl) (d_cons (d_var rfl) d_nil)))) dss_nil))) (dss (ds_ret (d_var rfl)) dss_nil))))
theorem w14 (H : Hyp P w K mg base k) {f : Addr} {fd : FuncData} (F : Fun K "_law_lamp" "_law_lamp" tp14 f fd) : FnOk P w K mg base CX0 (k + 1) f fd ["script"] (SpF K (arOf PD 14) (run PD 200 (k + 1) 14)) :=
  fun_fw F sc14 (df := ⟨1, 5, b14⟩) rfl rfl rfl fun cdv A outer s Hh E hr =>
    show PSs _ _ (rdSs _ b14) from
    (dss (ds_par rfl sc14.nd rfl rfl (d_newL d_nil) d_int) (dss (ds_for PassesOwn.never rfl (di_seq (d_slc (d_var rfl) d_o0 (d_o1 d_int))) (dg_name sc14.nd rfl (by first | exact .inl rfl | exact .inr rfl)) (dss (ds_set sc14.nd rfl (by first | exact .inl rfl | exact .inr rfl) (d_bin (o := .mod) rfl (d_abs rfl H.n_abs (d_toInt rfl H.n_int (d_var rfl))) (d_bin (o := .shl) rfl d_int d_int))) (dss (ds_set sc14.nd rfl (by first | exact .inl rfl | exact .inr rfl) (d_bin (o := .mod) rfl (d_toInt rfl H.n_int (d_bin (o := .add) rfl (d_bin (o := .add) rfl (d_bin (o := .add) rfl (d_bin (o := .mul) rfl (d_var rfl) d_int) (d_bin (o := .mod) rfl (d_var rfl) d_int)) (d_bin (o := .mul) rfl d_int (d_toInt rfl H.n_int (d_cmp (o := .lt) hr rfl (d_var rfl) d_int)))) d_int)) d_int)) (dss (ds_if (dt_cmp (o := .ge) hr rfl (d_var rfl) (d_bin (o := .pow) rfl d_int d_int)) (dss (ds_expr (d_app (d_var rfl) (d_var rfl))) dss_nil) dss_nil) dss_nil)))) (dss (ds_ret (d_disp (d_ds (d_var rfl) (d_ds (d_var rfl) (d_ds d_int (d_ds d_newK d_ds0)))))) dss_nil)))
theorem w15 (H : Hyp P w K mg base k) {f : Addr} {fd : FuncData} (F : Fun K "_law_take" "_law_take" tp15 f fd) : FnOk P w K mg base CX0 (k + 1) f fd ["lamp", "place", "many"] (SpF K (arOf PD 15) (run PD 200 (k + 1) 15)) :=
  fun_fw F sc15 (df := ⟨3, 5, b15⟩) rfl rfl rfl fun cdv A outer s Hh E hr =>
    show PSs _ _ (rdSs _ b15) from
    (dss (ds_if (dt_cmp (o := .lt) hr rfl (d_var rfl) d_int) (dss (ds_ret d_int) dss_nil) dss_nil) (dss (ds_if (dt_cmp (o := .gt) hr rfl (d_len rfl H.n_len (d_dget hr (d_var rfl) d_str)) d_int) (dss (ds_set sc15.nd rfl (by first | exact .inl rfl | exact .inr rfl) (d_pop (d_dget hr (d_var rfl) d_str))) (dss (ds_if (dt_cmp (o := .ge) hr rfl (d_var rfl) (d_var rfl)) (dss (ds_expr (d_app (d_dget hr (d_var rfl) d_str) (d_bin (o := .fdiv) rfl (d_var rfl) (d_var rfl)))) dss_nil) dss_nil) (dss (ds_ret (d_bin (o := .mod) rfl (d_toInt rfl H.n_int (d_var rfl)) (d_var rfl))) dss_nil))) dss_nil) (dss (ds_dput hr (d_bin (o := .add) rfl (d_dget hr (d_var rfl) d_str) d_int) (d_var rfl) d_str) (dss (ds_dput hr (d_bin (o := .mod) rfl (d_toInt rfl H.n_int (d_bin (o := .add) rfl (d_bin (o := .add) rfl (d_bin (o := .mul) rfl (d_dget hr (d_var rfl) d_str) d_int) (d_bin (o := .mul) rfl (d_dget hr (d_var rfl) d_str) d_int)) d_int)) d_int) (d_var rfl) d_str) (dss (ds_if (dt_dnin hr (d_var rfl) (d_dget hr (d_var rfl) d_str)) (dss (ds_dput hr (d_bin (o := .fdiv) rfl (d_dget hr (d_var rfl) d_str) d_int) (d_dget hr (d_var rfl) d_str) (d_var rfl)) (dss (ds_dput hr (d_bin (o := .mod) rfl (d_toInt rfl H.n_int (d_bin (o := .add) rfl (d_bin (o := .mul) rfl (d_dget hr (d_var rfl) d_str) d_int) d_int)) d_int) (d_var rfl) d_str) dss_nil)) dss_nil) (dss (ds_set sc15.nd rfl (by first | exact .inl rfl | exact .inr rfl) (d_dget hr (d_dget hr (d_var rfl) d_str) (d_var rfl))) (dss (ds_if (dt_cmp (o := .lt) hr rfl (d_bin (o := .mod) rfl (d_toInt rfl H.n_int (d_var rfl)) d_int) d_int) (dss (ds_ret (d_idx (d_tup (d_cons d_int (d_cons (d_bin (o := .sub) rfl (d_var rfl) d_int) (d_cons (d_bin (o := .mod) rfl (d_toInt rfl H.n_int (d_bin (o := .fdiv) rfl (d_var rfl) d_int)) (d_var rfl)) d_nil)))) (d_bin (o := .mod) rfl (d_toInt rfl H.n_int (d_var rfl)) d_int))) dss_nil) dss_nil) (dss (ds_ret (d_bin (o := .mod) rfl (d_toInt rfl H.n_int (d_bin (o := .fdiv) rfl (d_dget hr (d_var rfl) d_str) d_int)) (d_var rfl))) dss_nil))))))))
theorem w16 (H : Hyp P w K mg base k) {f : Addr} {fd : FuncData} (F : Fun K "_law_same" "_law_same" tp16 f fd) : FnOk P w K mg base CX0 (k + 1) f fd ["told", "due"] (SpF K (arOf PD 16) (run PD 200 (k + 1) 16)) :=
  fun_fw F sc16 (df := ⟨2, 3, b16⟩) rfl rfl rfl fun cdv A outer s Hh E hr =>
    show PSs _ _ (rdSs _ b16) from
    (dss (ds_if (dt_bop (dw_or (dt_tru (d_isi rfl H.n_isinstance rfl H.n_tuple B_tuple (d_var rfl))) (dw_or1 (dt_tru (d_isi rfl H.n_isinstance rfl H.n_list B_list (d_var rfl)))))) (dss (ds_if (dt_bop (dw_or (dt_cmp (o := .ne) hr rfl (d_isi rfl H.n_isinstance rfl H.n_tuple B_tuple (d_var rfl)) (d_isi rfl H.n_isinstance rfl H.n_tuple B_tuple (d_var rfl))) (dw_or (dt_cmp (o := .ne) hr rfl (d_isi rfl H.n_isinstance rfl H.n_list B_list (d_var rfl)) (d_isi rfl H.n_isinstance rfl H.n_list B_list (d_var rfl))) (dw_or1 (dt_cmp (o := .ne) hr rfl (d_len rfl H.n_len (d_var rfl)) (d_len rfl H.n_len (d_var rfl))))))) (dss (ds_ret d_bl) dss_nil) dss_nil) (dss (ds_ret (d_cmp (o := .eq) hr rfl (d_len rfl H.n_len (d_lc [("at", 2)] rfl sc16.nd (blkOk_by rfl) (di_rng1 rfl H.n_range (d_len rfl H.n_len (d_var rfl))) (fun _ _ _ _ _ => (dg_name sc16.nd rfl (by first | exact .inl rfl | exact .inr rfl))) (fun _ _ _ _ _ => (dts_one (dt_not (dt_tru (d_call H.c16 hr rfl (d_cons (d_idx (d_var rfl) (d_var rfl)) (d_cons (d_idx (d_var rfl) (d_var rfl)) d_nil))))))) (fun _ _ _ _ _ => d_int))) d_int)) dss_nil)) dss_nil) (dss (ds_if (dt_bop (dw_or (dt_cmp (o := .isN) hr rfl (d_var rfl) d_none) (dw_or1 (dt_cmp (o := .isN) hr rfl (d_var rfl) d_none)))) (dss (ds_ret (d_and (d_cmp (o := .isN) hr rfl (d_var rfl) d_none) (d_one (d_cmp (o := .isN) hr rfl (d_var rfl) d_none)))) dss_nil) dss_nil) (dss (ds_if (dt_bop (dw_or (dt_tru (d_isi rfl H.n_isinstance rfl H.n_str B_str (d_var rfl))) (dw_or1 (dt_tru (d_isi rfl H.n_isinstance rfl H.n_str B_str (d_var rfl)))))) (dss (ds_ret (d_and (d_isi rfl H.n_isinstance rfl H.n_str B_str (d_var rfl)) (d_and (d_isi rfl H.n_isinstance rfl H.n_str B_str (d_var rfl)) (d_one (d_cmp (o := .eq) hr rfl (d_var rfl) (d_var rfl)))))) dss_nil) dss_nil) (dss (ds_if (dt_bop (dw_or (dt_tru (d_isi rfl H.n_isinstance rfl H.n_bool B_bool (d_var rfl))) (dw_or1 (dt_tru (d_isi rfl H.n_isinstance rfl H.n_bool B_bool (d_var rfl)))))) (dss (ds_ret (d_and (d_isi rfl H.n_isinstance rfl H.n_bool B_bool (d_var rfl)) (d_and (d_isi rfl H.n_isinstance rfl H.n_bool B_bool (d_var rfl)) (d_one (d_cmp (o := .eq) hr rfl (d_var rfl) (d_var rfl)))))) dss_nil) dss_nil) (dss (ds_ret (d_and (d_isi rfl H.n_isinstance rfl H.n_int B_int (d_var rfl)) (d_one (d_cmp (o := .eq) hr rfl (d_var rfl) (d_var rfl))))) dss_nil)))))
theorem w17 (H : Hyp P w K mg base k) {f : Addr} {fd : FuncData} (F : Fun K "_law_setting" "_law_setting" tp17 f fd) : FnOk P w K mg base CX0 (k + 1) f fd ["lamp", "most"] (SpF K (arOf PD 17) (run PD 200 (k + 1) 17)) :=
  fun_fw F sc17 (df := ⟨2, 10, b17⟩) rfl rfl rfl fun cdv A outer s Hh E hr =>
    show PSs _ _ (rdSs _ b17) from
    (dss (ds_set sc17.nd rfl (by first | exact .inl rfl | exact .inr rfl) (d_bin (o := .add) rfl d_int (d_call H.c15 hr rfl (d_cons (d_var rfl) (d_cons d_str (d_cons (d_var rfl) d_nil)))))) (dss (ds_set sc17.nd rfl (by first | exact .inl rfl | exact .inr rfl) (d_bin (o := .add) rfl d_int (d_call H.c15 hr rfl (d_cons (d_var rfl) (d_cons d_str (d_cons (d_ife (dt_cmp (o := .gt) hr rfl (d_var rfl) d_int) d_int (d_ife (dt_cmp (o := .gt) hr rfl (d_var rfl) d_int) d_int d_int)) d_nil)))))) (dss (ds_set sc17.nd rfl (by first | exact .inl rfl | exact .inr rfl) (d_call H.c15 hr rfl (d_cons (d_var rfl) (d_cons d_str (d_cons d_int d_nil))))) (dss (ds_set sc17.nd rfl (by first | exact .inl rfl | exact .inr rfl) (d_newL d_nil)) (dss (ds_for PassesOwn.never rfl (di_rng1 rfl H.n_range (d_bin (o := .add) rfl d_int (d_call H.c15 hr rfl (d_cons (d_var rfl) (d_cons d_str (d_cons d_int d_nil)))))) (dg_name sc17.nd rfl (by first | exact .inl rfl | exact .inr rfl)) (dss (ds_expr (d_app (d_var rfl) (d_tup (d_cons (d_idx (d_tup (d_cons d_str (d_cons d_str (d_cons d_str d_nil)))) (d_var rfl)) (d_cons (d_idx (d_tup (d_cons d_str (d_cons d_str (d_cons d_str (d_cons d_str (d_cons d_str d_nil)))))) (d_call H.c15 hr rfl (d_cons (d_var rfl) (d_cons d_str (d_cons d_int d_nil))))) d_nil))))) dss_nil)) (dss (ds_set sc17.nd rfl (by first | exact .inl rfl | exact .inr rfl) (d_slc (d_tup (d_cons d_str (d_cons d_str (d_cons d_str (d_cons d_str (d_cons d_str (d_cons d_str (d_cons d_str (d_cons d_str (d_cons d_str d_nil)))))))))) (d_o1 (d_var rfl)) (d_o1 (d_bin (o := .add) rfl (d_var rfl) (d_var rfl))))) (dss (ds_set sc17.nd rfl (by first | exact .inl rfl | exact .inr rfl) (d_tup (d_cons d_str (d_cons d_str (d_cons d_str (d_cons d_str (d_cons d_str (d_cons d_str (d_cons d_str (d_cons d_str d_nil)))))))))) (dss (ds_setLc [("at", 6)] rfl sc17.nd rfl rfl (blkOk_by rfl) (di_rng1 rfl H.n_range (d_var rfl)) (fun _ _ _ _ _ => (dg_name sc17.nd rfl (by first | exact .inl rfl | exact .inr rfl))) (fun _ _ _ _ _ => dts_nil) (fun _ _ _ _ _ => (d_tup (d_cons (d_idx (d_var rfl) (d_var rfl)) (d_cons (d_call H.c15 hr rfl (d_cons (d_var rfl) (d_cons d_str (d_cons (d_len rfl H.n_len (d_var rfl)) d_nil)))) d_nil))))) (dss (ds_ret (d_tup (d_cons (d_var rfl) (d_cons (d_toTup rfl H.n_tuple (d_var rfl)) (d_cons (d_toTup rfl H.n_tuple (d_var rfl)) d_nil))))) dss_nil)))))))))
theorem w18 (H : Hyp P w K mg base k) {f : Addr} {fd : FuncData} (F : Fun K "_law_program" "_law_program" tp18 f fd) : FnOk P w K mg base CX0 (k + 1) f fd ["lamp", "setting", "looks"] (SpF K (arOf PD 18) (run PD 200 (k + 1) 18)) :=
  fun_fw F sc18 (df := ⟨3, 15, b18⟩) rfl rfl rfl fun cdv A outer s Hh E hr =>
    show PSs _ _ (rdSs _ b18) from
    (dss (ds_par rfl sc18.nd rfl rfl (d_len rfl H.n_len (d_idx (d_var rfl) d_int)) (d_len rfl H.n_len (d_idx (d_var rfl) d_int))) (dss (ds_set sc18.nd rfl (by first | exact .inl rfl | exact .inr rfl) (d_newL d_nil)) (dss (ds_for PassesOwn.never rfl (di_rng1 rfl H.n_range (d_bin (o := .add) rfl (d_var rfl) d_int)) (dg_name sc18.nd rfl (by first | exact .inl rfl | exact .inr rfl)) (dss (ds_expr (d_app (d_var rfl) (d_tup (d_cons d_int (d_cons (d_tup (d_cons d_str (d_cons (d_idx (d_tup (d_cons d_str (d_cons d_str (d_cons d_str (d_cons d_str (d_cons d_str d_nil)))))) (d_call H.c15 hr rfl (d_cons (d_var rfl) (d_cons d_str (d_cons (d_bin (o := .add) rfl d_int (d_call H.c15 hr rfl (d_cons (d_var rfl) (d_cons d_str (d_cons d_int d_nil))))) d_nil))))) d_nil))) d_nil))))) dss_nil)) (dss (ds_while PassesOwn.never (dt_cmp (o := .gt) hr rfl (d_len rfl H.n_len (d_var rfl)) d_int) (dss (ds_set sc18.nd rfl (by first | exact .inl rfl | exact .inr rfl) (d_sort H.s19 hr rfl H.n_sorted rfl (d_var rfl))) (dss (ds_set sc18.nd rfl (by first | exact .inl rfl | exact .inr rfl) (d_popAt (d_var rfl) d_int)) (dss (ds_set sc18.nd rfl (by first | exact .inl rfl | exact .inr rfl) (d_call H.c15 hr rfl (d_cons (d_var rfl) (d_cons d_str (d_cons (d_len rfl H.n_len (d_var rfl)) d_nil))))) (dss (ds_set sc18.nd rfl (by first | exact .inl rfl | exact .inr rfl) (d_bin (o := .sub) rfl (d_bin (o := .add) rfl (d_bin (o := .shl) rfl d_int (d_bin (o := .add) rfl d_int (d_max2 rfl rfl H.n_max (d_idx (d_var rfl) d_int) (d_idx (d_idx (d_var rfl) (d_var rfl)) d_int)))) (d_sum rfl rfl H.n_sum (d_lc [("part", 13)] rfl sc18.nd (blkOk_by rfl) (di_seq (d_var rfl)) (fun _ _ _ _ _ => (dg_name sc18.nd rfl (by first | exact .inl rfl | exact .inr rfl))) (fun _ _ _ _ _ => dts_nil) (fun _ _ _ _ _ => (d_bin (o := .shl) rfl d_int (d_idx (d_var rfl) d_int)))))) (d_bin (o := .shl) rfl d_int (d_idx (d_idx (d_var rfl) (d_var rfl)) d_int)))) (dss (ds_set sc18.nd rfl (by first | exact .inl rfl | exact .inr rfl) (d_popAt (d_var rfl) (d_ife (dt_cmp (o := .le) hr rfl (d_var rfl) d_int) (d_var rfl) d_int))) (dss (ds_set sc18.nd rfl (by first | exact .inl rfl | exact .inr rfl) (d_toTup rfl H.n_tuple (d_lc [("mark", 14)] rfl sc18.nd (blkOk_by rfl) (di_rng1 rfl H.n_range (d_var rfl)) (fun _ _ _ _ _ => (dg_name sc18.nd rfl (by first | exact .inl rfl | exact .inr rfl))) (fun _ _ _ _ _ => (dts_one (dt_cmp (o := .eq) hr rfl (d_call H.c15 hr rfl (d_cons (d_var rfl) (d_cons d_str (d_cons d_int d_nil)))) d_int))) (fun _ _ _ _ _ => (d_var rfl))))) (dss (ds_set sc18.nd rfl (by first | exact .inl rfl | exact .inr rfl) (d_ife (dt_chn (o := .lt) (o' := .lt) hr rfl rfl d_int (d_len rfl H.n_len (d_var rfl)) (d_var rfl)) (d_var rfl) (d_tup (d_cons (d_call H.c15 hr rfl (d_cons (d_var rfl) (d_cons d_str (d_cons (d_var rfl) d_nil)))) d_nil)))) (dss (ds_asg (d_ife (dt_cmp (o := .eq) hr rfl (d_call H.c15 hr rfl (d_cons (d_var rfl) (d_cons d_str (d_cons d_int d_nil)))) d_int) (d_tup (d_cons (d_var rfl) (d_cons (d_var rfl) d_nil))) (d_tup (d_cons (d_var rfl) (d_cons (d_var rfl) d_nil)))) (dg_tup rfl (dg_cons (dg_name sc18.nd rfl (by first | exact .inl rfl | exact .inr rfl)) (dg_cons (dg_name sc18.nd rfl (by first | exact .inl rfl | exact .inr rfl)) dg_nil)))) (dss (ds_expr (d_app (d_var rfl) (d_tup (d_cons (d_bin (o := .add) rfl d_int (d_max2 rfl rfl H.n_max (d_idx (d_var rfl) d_int) (d_idx (d_var rfl) d_int))) (d_cons (d_tup (d_cons d_str (d_cons (d_call H.c15 hr rfl (d_cons (d_var rfl) (d_cons d_str (d_cons (d_var rfl) d_nil)))) (d_cons (d_var rfl) (d_cons (d_idx (d_var rfl) d_int) (d_cons (d_idx (d_var rfl) d_int) d_nil)))))) d_nil))))) dss_nil)))))))))) (dss (ds_ret (d_idx (d_idx (d_var rfl) d_int) d_int)) dss_nil)))))
theorem w19 (H : Hyp P w K mg base k) {f : Addr} {fd : FuncData} (F : Fun K "_law_depth" "_law_depth" tp19 f fd) : FnOk P w K mg base CX0 (k + 1) f fd ["part"] (SpF K (arOf PD 19) (run PD 200 (k + 1) 19)) :=
  fun_fw F sc19 (df := ⟨1, 1, b19⟩) rfl rfl rfl fun cdv A outer s Hh E hr =>
    show PSs _ _ (rdSs _ b19) from
    (dss (ds_ret (d_idx (d_var rfl) d_int)) dss_nil)
theorem w20 (H : Hyp P w K mg base k) {f : Addr} {fd : FuncData} (F : Fun K "_law_leaves" "_law_leaves" tp20 f fd) : FnOk P w K mg base CX0 (k + 1) f fd ["program"] (SpF K (arOf PD 20) (run PD 200 (k + 1) 20)) :=
  fun_fw F sc20 (df := ⟨1, 5, b20⟩) rfl rfl rfl fun cdv A outer s Hh E hr =>
    show PSs _ _ (rdSs _ b20) from
    (dss (ds_par rfl sc20.nd rfl rfl (d_newL d_nil) (d_newL (d_cons (d_tup (d_cons (d_tup d_nil) (d_cons (d_var rfl) d_nil))) d_nil))) (dss (ds_while PassesOwn.never (dt_cmp (o := .gt) hr rfl (d_len rfl H.n_len (d_var rfl)) d_int) (dss (ds_asg (d_pop (d_var rfl)) (dg_tup rfl (dg_cons (dg_name sc20.nd rfl (by first | exact .inl rfl | exact .inr rfl)) (dg_cons (dg_name sc20.nd rfl (by first | exact .inl rfl | exact .inr rfl)) dg_nil)))) (dss (ds_if (dt_cmp (o := .eq) hr rfl (d_idx (d_var rfl) d_int) d_str) (dss (ds_expr (d_app (d_var rfl) (d_tup (d_cons (d_var rfl) (d_cons (d_idx (d_var rfl) d_int) d_nil))))) dss_nil) (dss (ds_expr (d_ext (d_var rfl) (d_lst (d_cons (d_tup (d_cons (d_bin (o := .add) rfl (d_var rfl) (d_tup (d_cons d_int d_nil))) (d_cons (d_idx (d_var rfl) d_int) d_nil))) (d_cons (d_tup (d_cons (d_bin (o := .add) rfl (d_var rfl) (d_tup (d_cons d_int d_nil))) (d_cons (d_idx (d_var rfl) d_int) d_nil))) d_nil))))) dss_nil)) dss_nil))) (dss_frz (dss (ds_ret (d_var rfl)) dss_nil))))
theorem w21 (H : Hyp P w K mg base k) {f : Addr} {fd : FuncData} (F : Fun K "_law_looks" "_law_looks" tp21 f fd) : FnOk P w K mg base CX0 (k + 1) f fd ["program"] (SpF K (arOf PD 21) (run PD 200 (k + 1) 21)) :=
  fun_fw F sc21 (df := ⟨1, 4, b21⟩) rfl rfl rfl fun cdv A outer s Hh E hr =>
    show PSs _ _ (rdSs _ b21) from
    (dss (ds_par rfl sc21.nd rfl rfl (d_newL d_nil) (d_newL (d_cons (d_var rfl) d_nil))) (dss (ds_while PassesOwn.never (dt_cmp (o := .gt) hr rfl (d_len rfl H.n_len (d_var rfl)) d_int) (dss (ds_set sc21.nd rfl (by first | exact .inl rfl | exact .inr rfl) (d_pop (d_var rfl))) (dss (ds_if (dt_cmp (o := .eq) hr rfl (d_idx (d_var rfl) d_int) d_str) (dss (ds_expr (d_app (d_var rfl) (d_tup (d_cons (d_idx (d_var rfl) d_int) (d_cons (d_idx (d_var rfl) d_int) d_nil))))) (dss (ds_expr (d_ext (d_var rfl) (d_lst (d_cons (d_idx (d_var rfl) d_int) (d_cons (d_idx (d_var rfl) d_int) d_nil))))) dss_nil)) dss_nil) dss_nil))) (dss_frz (dss (ds_ret (d_var rfl)) dss_nil))))
theorem w22 (H : Hyp P w K mg base k) {f : Addr} {fd : FuncData} (F : Fun K "_law_said" "_law_said" tp22 f fd) : FnOk P w K mg base CX0 (k + 1) f fd ["setting", "look", "yes"] (SpF K (arOf PD 22) (run PD 200 (k + 1) 22)) :=
  fun_fw F sc22 (df := ⟨3, 5, b22⟩) rfl rfl rfl fun cdv A outer s Hh E hr =>
    show PSs _ _ (rdSs _ b22) from
    (dss (ds_set sc22.nd rfl (by first | exact .inl rfl | exact .inr rfl) (d_join d_str (d_lc [("mark", 4)] rfl sc22.nd (blkOk_by rfl) (di_seq (d_idx (d_var rfl) d_int)) (fun _ _ _ _ _ => (dg_name sc22.nd rfl (by first | exact .inl rfl | exact .inr rfl))) (fun _ _ _ _ _ => dts_nil) (fun _ _ _ _ _ => (d_idx (d_idx (d_var rfl) d_int) (d_var rfl)))))) (dss (ds_ret (d_bin (o := .add) rfl (d_bin (o := .add) rfl (d_idx (d_idx (d_idx (d_var rfl) d_int) (d_idx (d_var rfl) d_int)) d_int) (d_idx (d_tup (d_cons d_str (d_cons d_str d_nil))) (d_var rfl))) (d_var rfl))) dss_nil))
theorem w23 (H : Hyp P w K mg base k) {f : Addr} {fd : FuncData} (F : Fun K "_law_ways" "_law_ways" tp23 f fd) : FnOk P w K mg base CX0 (k + 1) f fd ["setting", "program"] (SpF K (arOf PD 23) (run PD 200 (k + 1) 23)) :=
  fun_fw F sc23 (df := ⟨2, 13, b23⟩) rfl rfl rfl fun cdv A outer s Hh E hr =>
    show PSs _ _ (rdSs _ b23) from
    (dss (ds_setLc [("place", 11)] rfl sc23.nd rfl rfl (blkOk_by rfl) (di_seq (d_idx (d_var rfl) d_int)) (fun _ _ _ _ _ => (dg_name sc23.nd rfl (by first | exact .inl rfl | exact .inr rfl))) (fun _ _ _ _ _ => dts_nil) (fun _ _ _ _ _ => (d_tupRg rfl rfl H.n_tuple rfl H.n_range (d_len rfl H.n_len (d_idx (d_var rfl) d_int))))) (dss (ds_par rfl sc23.nd rfl rfl d_newT (d_newL (d_cons (d_tup (d_cons (d_tup d_nil) (d_cons (d_var rfl) (d_cons (d_lst d_nil) (d_cons (d_var rfl) d_nil))))) d_nil))) (dss (ds_while PassesOwn.never (dt_cmp (o := .gt) hr rfl (d_len rfl H.n_len (d_var rfl)) d_int) (dss (ds_asg (d_pop (d_var rfl)) (dg_tup rfl (dg_cons (dg_name sc23.nd rfl (by first | exact .inl rfl | exact .inr rfl)) (dg_cons (dg_name sc23.nd rfl (by first | exact .inl rfl | exact .inr rfl)) (dg_cons (dg_name sc23.nd rfl (by first | exact .inl rfl | exact .inr rfl)) (dg_cons (dg_name sc23.nd rfl (by first | exact .inl rfl | exact .inr rfl)) dg_nil)))))) (dss (ds_dput hr (d_tup (d_cons (d_var rfl) (d_cons (d_var rfl) (d_cons (d_ife (dt_bop (dw_or (dt_cmp (o := .isN) hr rfl (d_var rfl) d_none) (dw_or1 (dt_cmp (o := .isin) hr rfl (d_tup d_nil) (d_var rfl))))) d_none (d_toTup rfl H.n_tuple (d_var rfl))) d_nil)))) (d_var rfl) (d_var rfl)) (dss (ds_if (dt_cmp (o := .eq) hr rfl (d_idx (d_var rfl) d_int) d_str) (dss (ds_for PassesOwn.never rfl (di_seq (d_tup (d_cons d_int (d_cons d_int d_nil)))) (dg_name sc23.nd rfl (by first | exact .inl rfl | exact .inr rfl)) (dss (ds_set sc23.nd rfl (by first | exact .inl rfl | exact .inr rfl) d_none) (dss (ds_if (dt_cmp (o := .notN) hr rfl (d_var rfl) d_none) (dss (ds_set sc23.nd rfl (by first | exact .inl rfl | exact .inr rfl) (d_newLst rfl H.n_list (d_var rfl))) (dss (ds_seti (d_toTup rfl H.n_tuple (d_lc [("mark", 12)] rfl sc23.nd (blkOk_by rfl) (di_seq (d_idx (d_var rfl) (d_idx (d_var rfl) d_int))) (fun _ _ _ _ _ => (dg_name sc23.nd rfl (by first | exact .inl rfl | exact .inr rfl))) (fun _ _ _ _ _ => (dts_one (dt_cmp (o := .eq) hr rfl (d_toInt rfl H.n_int (d_cmp (o := .isin) hr rfl (d_var rfl) (d_idx (d_var rfl) d_int))) (d_var rfl)))) (fun _ _ _ _ _ => (d_var rfl)))) (d_var rfl) (d_idx (d_var rfl) d_int)) (dss_frz (dss (ds_set sc23.nd rfl (by first | exact .inl rfl | exact .inr rfl) (d_ife (dt_cmp (o := .eq) hr rfl (d_len rfl H.n_len (d_idx (d_var rfl) (d_idx (d_var rfl) d_int))) d_int) d_none (d_var rfl))) dss_nil)))) dss_nil) (dss (ds_expr (d_app (d_var rfl) (d_tup (d_cons (d_bin (o := .add) rfl (d_var rfl) (d_tup (d_cons (d_var rfl) d_nil))) (d_cons (d_idx (d_var rfl) (d_bin (o := .sub) rfl d_int (d_var rfl))) (d_cons (d_bin (o := .add) rfl (d_var rfl) (d_lst (d_cons (d_call H.c22 hr rfl (d_cons (d_var rfl) (d_cons (d_tup (d_cons (d_idx (d_var rfl) d_int) (d_cons (d_idx (d_var rfl) d_int) d_nil))) (d_cons (d_var rfl) d_nil)))) d_nil))) (d_cons (d_var rfl) d_nil))))))) dss_nil)))) dss_nil) dss_nil) dss_nil)))) (dss (ds_ret (d_var rfl)) dss_nil))))
theorem w24 (H : Hyp P w K mg base k) {f : Addr} {fd : FuncData} (F : Fun K "_law_box" "_law_box" tp24 f fd) : FnOk P w K mg base CX0 (k + 1) f fd ["lamp", "setting"] (SpF K (arOf PD 24) (run PD 200 (k + 1) 24)) :=
  fun_fw F sc24 (df := ⟨2, 6, b24⟩) rfl rfl rfl fun cdv A outer s Hh E hr =>
    show PSs _ _ (rdSs _ b24) from
    (dss (ds_set sc24.nd rfl (by first | exact .inl rfl | exact .inr rfl) (d_newL d_nil)) (dss (ds_for PassesOwn.never rfl (di_seq (d_idx (d_var rfl) d_int)) (dg_name sc24.nd rfl (by first | exact .inl rfl | exact .inr rfl)) (dss (ds_set sc24.nd rfl (by first | exact .inl rfl | exact .inr rfl) (d_toTup rfl H.n_tuple (d_lc [("mark", 5)] rfl sc24.nd (blkOk_by rfl) (di_rng1 rfl H.n_range (d_len rfl H.n_len (d_idx (d_var rfl) d_int))) (fun _ _ _ _ _ => (dg_name sc24.nd rfl (by first | exact .inl rfl | exact .inr rfl))) (fun _ _ _ _ _ => (dts_one (dt_cmp (o := .eq) hr rfl (d_call H.c15 hr rfl (d_cons (d_var rfl) (d_cons d_str (d_cons d_int d_nil)))) d_int))) (fun _ _ _ _ _ => (d_var rfl))))) (dss (ds_expr (d_app (d_var rfl) (d_ife (dt_cmp (o := .gt) hr rfl (d_len rfl H.n_len (d_var rfl)) d_int) (d_var rfl) (d_tup (d_cons (d_call H.c15 hr rfl (d_cons (d_var rfl) (d_cons d_str (d_cons (d_len rfl H.n_len (d_idx (d_var rfl) d_int)) d_nil)))) d_nil))))) dss_nil))) (dss_frz (dss (ds_ret (d_toTup rfl H.n_tuple (d_var rfl))) dss_nil))))
theorem w25 (H : Hyp P w K mg base k) {f : Addr} {fd : FuncData} (F : Fun K "_law_boxed" "_law_boxed" tp25 f fd) : FnOk P w K mg base CX0 (k + 1) f fd ["setting", "box"] (SpF K (arOf PD 25) (run PD 200 (k + 1) 25)) :=
  fun_fw F sc25 (df := ⟨2, 4, b25⟩) rfl rfl rfl fun cdv A outer s Hh E hr =>
    show PSs _ _ (rdSs _ b25) from
    (dss (ds_ret (d_lc [("at", 2)] rfl sc25.nd (blkOk_by rfl) (di_rng1 rfl H.n_range (d_len rfl H.n_len (d_var rfl))) (fun _ _ _ _ _ => (dg_name sc25.nd rfl (by first | exact .inl rfl | exact .inr rfl))) (fun _ _ _ _ _ => dts_nil) (fun _ _ _ _ _ => (d_join d_str (d_bin (o := .add) rfl (d_lst (d_cons (d_idx (d_idx (d_idx (d_var rfl) d_int) (d_var rfl)) d_int) d_nil)) (d_lc [("mark", 3)] rfl sc25.nd (blkOk_by rfl) (di_seq (d_idx (d_var rfl) (d_var rfl))) (fun _ _ _ _ _ => (dg_name sc25.nd rfl (by first | exact .inl rfl | exact .inr rfl))) (fun _ _ _ _ _ => dts_nil) (fun _ _ _ _ _ => (d_idx (d_idx (d_var rfl) d_int) (d_var rfl))))))))) dss_nil)
theorem w26 (H : Hyp P w K mg base k) {f : Addr} {fd : FuncData} (F : Fun K "_law_asked" "_law_asked" tp26 f fd) : FnOk P w K mg base CX0 (k + 1) f fd ["lamp", "setting", "program"] (SpF K (arOf PD 26) (run PD 200 (k + 1) 26)) :=
  fun_fw F sc26 (df := ⟨3, 13, b26⟩) rfl rfl rfl fun cdv A outer s Hh E hr =>
    show PSs _ _ (rdSs _ b26) from
    (dss (ds_asg (d_tup (d_cons (d_call H.c23 hr rfl (d_cons (d_var rfl) (d_cons (d_var rfl) d_nil))) (d_cons (d_call H.c20 hr rfl (d_cons (d_var rfl) d_nil)) d_nil))) (dg_tup rfl (dg_cons (dg_name sc26.nd rfl (by first | exact .inl rfl | exact .inr rfl)) (dg_cons (dg_name sc26.nd rfl (by first | exact .inl rfl | exact .inr rfl)) dg_nil)))) (dss (ds_setLc [("way", 7), ("word", 12)] rfl sc26.nd rfl rfl (blkOk_by rfl) (di_seq (d_var rfl)) (fun _ _ _ _ _ => (dg_tup rfl (dg_cons (dg_name sc26.nd rfl (by first | exact .inl rfl | exact .inr rfl)) (dg_cons (dg_name sc26.nd rfl (by first | exact .inl rfl | exact .inr rfl)) dg_nil)))) (fun _ _ _ _ _ => dts_nil) (fun _ _ _ _ _ => (d_bin (o := .add) rfl (d_var rfl) (d_ife (dt_cmp (o := .gt) hr rfl (d_len rfl H.n_len (d_var rfl)) d_int) (d_bin (o := .add) rfl d_str (d_join d_str (d_idx (d_dget hr (d_var rfl) (d_var rfl)) d_int))) d_str)))) (dss (ds_set sc26.nd rfl (by first | exact .inl rfl | exact .inr rfl) (d_tup (d_cons (d_call H.c9 hr rfl (d_cons (d_var rfl) (d_cons (d_var rfl) d_nil))) (d_cons (d_call H.c4 hr rfl (d_cons (d_var rfl) d_nil)) (d_cons (d_call H.c5 hr rfl (d_cons (d_var rfl) d_nil)) d_nil))))) (dss (ds_if (dt_not (dt_tru (d_call H.c16 hr rfl (d_cons (d_var rfl) (d_cons (d_tup (d_cons (d_var rfl) (d_cons (d_toTup rfl H.n_tuple (d_var rfl)) (d_cons (d_toTup rfl H.n_tuple (d_call H.c21 hr rfl (d_cons (d_var rfl) d_nil))) d_nil)))) d_nil))))) (dss (ds_ret d_bl) dss_nil) dss_nil) (dss (ds_forK PassesOwn.never rfl (d_var rfl) (dg_name sc26.nd rfl (by first | exact .inl rfl | exact .inr rfl)) (dss (ds_asg (d_dget hr (d_var rfl) (d_var rfl)) (dg_tup rfl (dg_cons (dg_name sc26.nd rfl (by first | exact .inl rfl | exact .inr rfl)) (dg_cons (dg_name sc26.nd rfl (by first | exact .inl rfl | exact .inr rfl)) (dg_cons (dg_name sc26.nd rfl (by first | exact .inl rfl | exact .inr rfl)) dg_nil))))) (dss (ds_set sc26.nd rfl (by first | exact .inl rfl | exact .inr rfl) (d_tup (d_cons (d_call H.c8 hr rfl (d_cons (d_var rfl) (d_cons (d_var rfl) (d_cons (d_var rfl) d_nil)))) (d_cons (d_call H.c3 hr rfl (d_cons (d_var rfl) (d_cons (d_var rfl) d_nil))) (d_cons (d_callK0 H.k13_2_1_0_0 hr rfl (d_k (d_var rfl) (d_k (d_var rfl) (d_k (d_var rfl) d_k0)))) d_nil))))) (dss (ds_if (dt_not (dt_tru (d_call H.c16 hr rfl (d_cons (d_var rfl) (d_cons (d_tup (d_cons (d_var rfl) (d_cons (d_var rfl) (d_cons (d_var rfl) d_nil)))) d_nil))))) (dss (ds_ret d_bl) dss_nil) dss_nil) (dss (ds_if (dt_bop (dw_and (dt_cmp (o := .notN) hr rfl (d_var rfl) d_none) (dw_and1 (dt_not (dt_tru (d_call H.c16 hr rfl (d_cons (d_call H.c10 hr rfl (d_cons (d_var rfl) (d_cons (d_var rfl) d_nil))) (d_cons (d_call H.c25 hr rfl (d_cons (d_var rfl) (d_cons (d_var rfl) d_nil))) d_nil)))))))) (dss (ds_ret d_bl) dss_nil) dss_nil) (dss (ds_if (dt_cmp (o := .eq) hr rfl (d_idx (d_var rfl) d_int) d_str) (dss (ds_set sc26.nd rfl (by first | exact .inl rfl | exact .inr rfl) (d_tup (d_cons (d_call H.c7 hr rfl (d_cons (d_var rfl) (d_cons (d_idx (d_var rfl) d_int) (d_cons (d_idx (d_var rfl) d_int) (d_cons d_int d_nil))))) (d_cons (d_callK0 H.k7_3_2_1_0_0 hr rfl (d_k d_int (d_k (d_idx (d_var rfl) d_int) (d_k (d_idx (d_var rfl) d_int) (d_k (d_var rfl) d_k0))))) d_nil)))) (dss (ds_if (dt_not (dt_tru (d_call H.c16 hr rfl (d_cons (d_var rfl) (d_cons (d_tup (d_cons (d_call H.c22 hr rfl (d_cons (d_var rfl) (d_cons (d_slc (d_var rfl) (d_o1 d_int) (d_o1 d_int)) (d_cons d_int d_nil)))) (d_cons (d_call H.c22 hr rfl (d_cons (d_var rfl) (d_cons (d_slc (d_var rfl) (d_o1 d_int) (d_o1 d_int)) (d_cons d_int d_nil)))) d_nil))) d_nil))))) (dss (ds_ret d_bl) dss_nil) dss_nil) dss_nil)) dss_nil) dss_nil)))))) (dss (ds_set sc26.nd rfl (by first | exact .inl rfl | exact .inr rfl) (d_call H.c24 hr rfl (d_cons (d_var rfl) (d_cons (d_var rfl) d_nil)))) (dss (ds_ret (d_call H.c16 hr rfl (d_cons (d_callK0 H.k10_1_0_0 hr rfl (d_k (d_var rfl) (d_k (d_var rfl) d_k0))) (d_cons (d_call H.c25 hr rfl (d_cons (d_var rfl) (d_cons (d_var rfl) d_nil))) d_nil)))) dss_nil)))))))
theorem w27 (H : Hyp P w K mg base k) {f : Addr} {fd : FuncData} (F : Fun K "_law_hand" "_law_hand" tp27 f fd) : FnOk P w K mg base CX0 (k + 1) f fd [] (SpF K (arOf PD 27) (run PD 200 (k + 1) 27)) :=
  fun_fw F sc27 (df := ⟨0, 11, b27⟩) rfl rfl rfl fun cdv A outer s Hh E hr =>
    show PSs _ _ (rdSs _ b27) from
    (dss (ds_set sc27.nd rfl (by first | exact .inl rfl | exact .inr rfl) (d_tup (d_cons (d_tup (d_cons d_str (d_cons d_str d_nil))) (d_cons (d_tup (d_cons (d_tup (d_cons d_str (d_cons d_str d_nil))) (d_cons (d_tup (d_cons d_str (d_cons d_str d_nil))) d_nil))) (d_cons (d_tup (d_cons (d_tup (d_cons d_str (d_cons d_int d_nil))) (d_cons (d_tup (d_cons d_str (d_cons d_int d_nil))) (d_cons (d_tup (d_cons d_str (d_cons d_int d_nil))) (d_cons (d_tup (d_cons d_str (d_cons d_int d_nil))) (d_cons (d_tup (d_cons d_str (d_cons d_int d_nil))) (d_cons (d_tup (d_cons d_str (d_cons d_int d_nil))) d_nil))))))) d_nil))))) (dss (ds_set sc27.nd rfl (by first | exact .inl rfl | exact .inr rfl) (d_tup (d_cons d_str (d_cons d_int (d_cons (d_tup (d_cons d_int d_nil)) (d_cons (d_tup (d_cons d_str (d_cons d_str d_nil))) (d_cons (d_tup (d_cons d_str (d_cons d_str d_nil))) d_nil))))))) (dss (ds_set sc27.nd rfl (by first | exact .inl rfl | exact .inr rfl) (d_tup (d_cons d_str (d_cons d_int (d_cons (d_tup (d_cons d_int d_nil)) (d_cons (d_tup (d_cons d_str (d_cons d_int (d_cons (d_tup (d_cons d_int d_nil)) (d_cons (d_tup (d_cons d_str (d_cons d_str d_nil))) (d_cons (d_var rfl) d_nil)))))) (d_cons (d_tup (d_cons d_str (d_cons d_int (d_cons (d_tup (d_cons d_int d_nil)) (d_cons (d_var rfl) (d_cons (d_tup (d_cons d_str (d_cons d_str d_nil))) d_nil)))))) d_nil))))))) (dss (ds_set sc27.nd rfl (by first | exact .inl rfl | exact .inr rfl) (d_tup (d_cons d_str (d_cons d_int (d_cons (d_tup (d_cons d_int d_nil)) (d_cons (d_tup (d_cons d_str (d_cons d_str d_nil))) (d_cons (d_var rfl) d_nil))))))) (dss (ds_set sc27.nd rfl (by first | exact .inl rfl | exact .inr rfl) (d_tup (d_cons d_int (d_cons d_int (d_cons d_int (d_cons d_int (d_cons d_int (d_cons d_int d_nil)))))))) (dss (ds_set sc27.nd rfl (by first | exact .inl rfl | exact .inr rfl) (d_call H.c13 hr rfl (d_cons (d_var rfl) (d_cons (d_var rfl) (d_cons (d_tup (d_cons d_int d_nil)) d_nil))))) (dss (ds_set sc27.nd rfl (by first | exact .inl rfl | exact .inr rfl) (d_tup (d_cons (d_call H.c7 hr rfl (d_cons (d_var rfl) (d_cons d_int (d_cons (d_tup (d_cons d_int d_nil)) (d_cons d_int d_nil))))) (d_cons (d_idx (d_call H.c9 hr rfl (d_cons (d_var rfl) (d_cons (d_var rfl) d_nil))) d_int) (d_cons (d_slc (d_call H.c10 hr rfl (d_cons (d_var rfl) (d_cons (d_var rfl) d_nil))) (d_o1 d_int) (d_o1 d_int)) (d_cons (d_callK0 H.k9_1_0_0 hr rfl (d_k (d_tup (d_cons d_str (d_cons d_str d_nil))) (d_k (d_var rfl) d_k0))) (d_cons (d_call H.c8 hr rfl (d_cons (d_var rfl) (d_cons (d_var rfl) (d_cons (d_tup (d_cons d_int (d_cons d_int d_nil))) d_nil)))) (d_cons (d_callK0 H.k8_2_1_0_0 hr rfl (d_k (d_tup d_nil) (d_k (d_var rfl) (d_k (d_var rfl) d_k0)))) d_nil)))))))) (dss (ds_set sc27.nd rfl (by first | exact .inl rfl | exact .inr rfl) (d_tup (d_cons d_str (d_cons d_str (d_cons (d_lst (d_cons d_str (d_cons d_str d_nil))) (d_cons (d_lst (d_cons d_str d_nil)) (d_cons (d_lst (d_cons d_str (d_cons d_str d_nil))) (d_cons (d_lst d_nil) d_nil)))))))) (dss (ds_set sc27.nd rfl (by first | exact .inl rfl | exact .inr rfl) (d_tup (d_cons (d_tup (d_cons d_str (d_cons d_str (d_cons d_str d_nil)))) (d_cons (d_tup (d_cons (d_tup (d_cons d_str (d_cons d_str d_nil))) d_nil)) (d_cons (d_tup (d_cons (d_tup (d_cons d_str (d_cons d_int d_nil))) d_nil)) d_nil))))) (dss (ds_set sc27.nd rfl (by first | exact .inl rfl | exact .inr rfl) (d_tup (d_cons (d_call H.c7 hr rfl (d_cons (d_var rfl) (d_cons d_int (d_cons (d_tup (d_cons d_int (d_cons d_int d_nil))) (d_cons d_int d_nil))))) (d_cons (d_call H.c9 hr rfl (d_cons (d_var rfl) (d_cons (d_tup (d_cons d_str (d_cons d_int (d_cons (d_tup (d_cons d_int (d_cons d_int d_nil))) (d_cons (d_tup (d_cons d_str (d_cons d_str d_nil))) (d_cons (d_tup (d_cons d_str (d_cons d_int (d_cons (d_tup (d_cons d_int d_nil)) (d_cons (d_tup (d_cons d_str (d_cons d_str d_nil))) (d_cons (d_tup (d_cons d_str (d_cons d_str d_nil))) d_nil)))))) d_nil)))))) d_nil))) (d_cons (d_call H.c10 hr rfl (d_cons (d_var rfl) (d_cons (d_tup (d_cons (d_tup (d_cons d_int (d_cons d_int (d_cons d_int d_nil)))) d_nil)) d_nil))) d_nil))))) (dss (ds_set sc27.nd rfl (by first | exact .inl rfl | exact .inr rfl) (d_tup (d_cons d_str (d_cons (d_lst (d_cons d_str (d_cons d_str (d_cons d_str d_nil)))) (d_cons (d_lst (d_cons d_str d_nil)) d_nil))))) (dss (ds_ret (d_and (d_call H.c16 hr rfl (d_cons (d_var rfl) (d_cons (d_var rfl) d_nil))) (d_one (d_call H.c16 hr rfl (d_cons (d_var rfl) (d_cons (d_var rfl) d_nil)))))) dss_nil))))))))))))
theorem w28 (H : Hyp P w K mg base k) {f : Addr} {fd : FuncData} (F : Fun K "law" "law" tp28 f fd) : FnOk P w K mg base CX0 (k + 1) f fd ["script"] (SpF K (arOf PD 28) (run PD 200 (k + 1) 28)) :=
  fun_fw F sc28 (df := ⟨1, 4, b28⟩) rfl rfl rfl fun cdv A outer s Hh E hr =>
    show PSs _ _ (rdSs _ b28) from
    (dss (ds_set sc28.nd rfl (by first | exact .inl rfl | exact .inr rfl) (d_call H.c14 hr rfl (d_cons (d_var rfl) d_nil))) (dss (ds_if (dt_not (dt_tru (d_call0 H.c27 hr rfl))) (dss (ds_ret d_bl) dss_nil) dss_nil) (dss (ds_for PassesOwn.never rfl (di_rng1 rfl H.n_range d_int) (dg_name sc28.nd rfl (by first | exact .inl rfl | exact .inr rfl)) (dss (ds_set sc28.nd rfl (by first | exact .inl rfl | exact .inr rfl) (d_call H.c17 hr rfl (d_cons (d_var rfl) (d_cons d_int d_nil)))) (dss (ds_if (dt_not (dt_tru (d_call H.c26 hr rfl (d_cons (d_var rfl) (d_cons (d_var rfl) (d_cons (d_call H.c18 hr rfl (d_cons (d_var rfl) (d_cons (d_var rfl) (d_cons (d_call H.c15 hr rfl (d_cons (d_var rfl) (d_cons d_str (d_cons (d_idx (d_tup (d_cons d_int (d_cons d_int (d_cons d_int d_nil)))) (d_var rfl)) d_nil)))) d_nil)))) d_nil)))))) (dss (ds_ret d_bl) dss_nil) dss_nil) dss_nil))) (dss (ds_ret d_bl) dss_nil))))
/-- all defs, at every level -/
theorem hyp_all {f0 f1 f2 f3 f4 f5 f6 f7 f8 f9 f10 f11 f12 f13 f14 f15 f16 f17 f18 f19 f20 f21 f22 f23 f24 f25 f26 f27 f28 : Addr} {fd0 fd1 fd2 fd3 fd4 fd5 fd6 fd7 fd8 fd9 fd10 fd11 fd12 fd13 fd14 fd15 fd16 fd17 fd18 fd19 fd20 fd21 fd22 fd23 fd24 fd25 fd26 fd27 fd28 : FuncData}
    (F0 : Fun K "is_integer" "is_integer" tp0 f0 fd0) (m0 : mg "is_integer" = some (.ref f0))
    (F1 : Fun K "integer_within" "integer_within" tp1 f1 fd1) (m1 : mg "integer_within" = some (.ref f1))
    (F2 : Fun K "side" "side" tp2 f2 fd2) (m2 : mg "side" = some (.ref f2))
    (F3 : Fun K "part_at" "part_at" tp3 f3 fd3) (m3 : mg "part_at" = some (.ref f3))
    (F4 : Fun K "leaves_of" "leaves_of" tp4 f4 fd4) (m4 : mg "leaves_of" = some (.ref f4))
    (F5 : Fun K "looks_of" "looks_of" tp5 f5 fd5) (m5 : mg "looks_of" = some (.ref f5))
    (F6 : Fun K "names_of" "names_of" tp6 f6 fd6) (m6 : mg "names_of" = some (.ref f6))
    (F7 : Fun K "look_in_words" "look_in_words" tp7 f7 fd7) (m7 : mg "look_in_words" = some (.ref f7))
    (F8 : Fun K "way_words" "way_words" tp8 f8 fd8) (m8 : mg "way_words" = some (.ref f8))
    (F9 : Fun K "in_words" "in_words" tp9 f9 fd9) (m9 : mg "in_words" = some (.ref f9))
    (F10 : Fun K "box_words" "box_words" tp10 f10 fd10) (m10 : mg "box_words" = some (.ref f10))
    (F11 : Fun K "full_box" "full_box" tp11 f11 fd11) (m11 : mg "full_box" = some (.ref f11))
    (F12 : Fun K "narrowed" "narrowed" tp12 f12 fd12) (m12 : mg "narrowed" = some (.ref f12))
    (F13 : Fun K "way_box" "way_box" tp13 f13 fd13) (m13 : mg "way_box" = some (.ref f13))
    (F14 : Fun K "_law_lamp" "_law_lamp" tp14 f14 fd14) (m14 : mg "_law_lamp" = some (.ref f14))
    (F15 : Fun K "_law_take" "_law_take" tp15 f15 fd15) (m15 : mg "_law_take" = some (.ref f15))
    (F16 : Fun K "_law_same" "_law_same" tp16 f16 fd16) (m16 : mg "_law_same" = some (.ref f16))
    (F17 : Fun K "_law_setting" "_law_setting" tp17 f17 fd17) (m17 : mg "_law_setting" = some (.ref f17))
    (F18 : Fun K "_law_program" "_law_program" tp18 f18 fd18) (m18 : mg "_law_program" = some (.ref f18))
    (F19 : Fun K "_law_depth" "_law_depth" tp19 f19 fd19) (m19 : mg "_law_depth" = some (.ref f19))
    (F20 : Fun K "_law_leaves" "_law_leaves" tp20 f20 fd20) (m20 : mg "_law_leaves" = some (.ref f20))
    (F21 : Fun K "_law_looks" "_law_looks" tp21 f21 fd21) (m21 : mg "_law_looks" = some (.ref f21))
    (F22 : Fun K "_law_said" "_law_said" tp22 f22 fd22) (m22 : mg "_law_said" = some (.ref f22))
    (F23 : Fun K "_law_ways" "_law_ways" tp23 f23 fd23) (m23 : mg "_law_ways" = some (.ref f23))
    (F24 : Fun K "_law_box" "_law_box" tp24 f24 fd24) (m24 : mg "_law_box" = some (.ref f24))
    (F25 : Fun K "_law_boxed" "_law_boxed" tp25 f25 fd25) (m25 : mg "_law_boxed" = some (.ref f25))
    (F26 : Fun K "_law_asked" "_law_asked" tp26 f26 fd26) (m26 : mg "_law_asked" = some (.ref f26))
    (F27 : Fun K "_law_hand" "_law_hand" tp27 f27 fd27) (m27 : mg "_law_hand" = some (.ref f27))
    (F28 : Fun K "law" "law" tp28 f28 fd28) (m28 : mg "law" = some (.ref f28))
    (n_abs : mg "abs" = none)
    (n_bool : mg "bool" = none)
    (n_int : mg "int" = none)
    (n_isinstance : mg "isinstance" = none)
    (n_len : mg "len" = none)
    (n_list : mg "list" = none)
    (n_max : mg "max" = none)
    (n_range : mg "range" = none)
    (n_sorted : mg "sorted" = none)
    (n_str : mg "str" = none)
    (n_sum : mg "sum" = none)
    (n_tuple : mg "tuple" = none)
    (n_zip : mg "zip" = none)
    : ∀ k, Hyp P w K mg base k := by
  have b0 := F0.binds (ps := ["thing"]) fun _ _ _ _ _ _ us hl => match us, hl with | [_], _ => rfl
  have b1 := F1.binds (ps := ["thing", "low", "high"]) fun _ _ _ _ _ _ us hl => match us, hl with | [_, _, _], _ => rfl
  have b2 := F2.binds (ps := ["program", "yes"]) fun _ _ _ _ _ _ us hl => match us, hl with | [_, _], _ => rfl
  have b3 := F3.binds (ps := ["program", "way"]) fun _ _ _ _ _ _ us hl => match us, hl with | [_, _], _ => rfl
  have b4 := F4.binds (ps := ["program"]) fun _ _ _ _ _ _ us hl => match us, hl with | [_], _ => rfl
  have b5 := F5.binds (ps := ["program"]) fun _ _ _ _ _ _ us hl => match us, hl with | [_], _ => rfl
  have b6 := F6.binds (ps := ["setting"]) fun _ _ _ _ _ _ us hl => match us, hl with | [_], _ => rfl
  have b7 := F7.binds (ps := ["setting", "place", "marks", "yes"]) fun _ _ _ _ _ _ us hl => match us, hl with | [_, _, _, _], _ => rfl
  have b8 := F8.binds (ps := ["setting", "program", "way"]) fun _ _ _ _ _ _ us hl => match us, hl with | [_, _, _], _ => rfl
  have b9 := F9.binds (ps := ["setting", "program"]) fun _ _ _ _ _ _ us hl => match us, hl with | [_, _], _ => rfl
  have b10 := F10.binds (ps := ["setting", "box"]) fun _ _ _ _ _ _ us hl => match us, hl with | [_, _], _ => rfl
  have b11 := F11.binds (ps := ["setting"]) fun _ _ _ _ _ _ us hl => match us, hl with | [_], _ => rfl
  have b12 := F12.binds (ps := ["box", "place", "marks", "yes"]) fun _ _ _ _ _ _ us hl => match us, hl with | [_, _, _, _], _ => rfl
  have b13 := F13.binds (ps := ["setting", "program", "way"]) fun _ _ _ _ _ _ us hl => match us, hl with | [_, _, _], _ => rfl
  have b14 := F14.binds (ps := ["script"]) fun _ _ _ _ _ _ us hl => match us, hl with | [_], _ => rfl
  have b15 := F15.binds (ps := ["lamp", "place", "many"]) fun _ _ _ _ _ _ us hl => match us, hl with | [_, _, _], _ => rfl
  have b16 := F16.binds (ps := ["told", "due"]) fun _ _ _ _ _ _ us hl => match us, hl with | [_, _], _ => rfl
  have b17 := F17.binds (ps := ["lamp", "most"]) fun _ _ _ _ _ _ us hl => match us, hl with | [_, _], _ => rfl
  have b18 := F18.binds (ps := ["lamp", "setting", "looks"]) fun _ _ _ _ _ _ us hl => match us, hl with | [_, _, _], _ => rfl
  have b19 := F19.binds (ps := ["part"]) fun _ _ _ _ _ _ us hl => match us, hl with | [_], _ => rfl
  have b20 := F20.binds (ps := ["program"]) fun _ _ _ _ _ _ us hl => match us, hl with | [_], _ => rfl
  have b21 := F21.binds (ps := ["program"]) fun _ _ _ _ _ _ us hl => match us, hl with | [_], _ => rfl
  have b22 := F22.binds (ps := ["setting", "look", "yes"]) fun _ _ _ _ _ _ us hl => match us, hl with | [_, _, _], _ => rfl
  have b23 := F23.binds (ps := ["setting", "program"]) fun _ _ _ _ _ _ us hl => match us, hl with | [_, _], _ => rfl
  have b24 := F24.binds (ps := ["lamp", "setting"]) fun _ _ _ _ _ _ us hl => match us, hl with | [_, _], _ => rfl
  have b25 := F25.binds (ps := ["setting", "box"]) fun _ _ _ _ _ _ us hl => match us, hl with | [_, _], _ => rfl
  have b26 := F26.binds (ps := ["lamp", "setting", "program"]) fun _ _ _ _ _ _ us hl => match us, hl with | [_, _, _], _ => rfl
  have b27 := F27.binds (ps := []) fun _ _ _ _ _ _ us hl => match us, hl with | [], _ => rfl
  have b28 := F28.binds (ps := ["script"]) fun _ _ _ _ _ _ us hl => match us, hl with | [_], _ => rfl
  have qk10_1_0_0 := kb_of (ps := ["setting", "box"]) (ks := ["box", "setting"]) (na := 0) (perm := [1, 0]) F10 (by decide) fun _ _ _ _ _ _ us ws h1 h2 => by
    match us, ws, h1, h2 with
    | [], [_, _], _, _ => rfl
  have qk7_3_2_1_0_0 := kb_of (ps := ["setting", "place", "marks", "yes"]) (ks := ["yes", "marks", "place", "setting"]) (na := 0) (perm := [3, 2, 1, 0]) F7 (by decide) fun _ _ _ _ _ _ us ws h1 h2 => by
    match us, ws, h1, h2 with
    | [], [_, _, _, _], _, _ => rfl
  have qk13_2_1_0_0 := kb_of (ps := ["setting", "program", "way"]) (ks := ["way", "program", "setting"]) (na := 0) (perm := [2, 1, 0]) F13 (by decide) fun _ _ _ _ _ _ us ws h1 h2 => by
    match us, ws, h1, h2 with
    | [], [_, _, _], _, _ => rfl
  have qk9_1_0_0 := kb_of (ps := ["setting", "program"]) (ks := ["program", "setting"]) (na := 0) (perm := [1, 0]) F9 (by decide) fun _ _ _ _ _ _ us ws h1 h2 => by
    match us, ws, h1, h2 with
    | [], [_, _], _, _ => rfl
  have qk8_2_1_0_0 := kb_of (ps := ["setting", "program", "way"]) (ks := ["way", "program", "setting"]) (na := 0) (perm := [2, 1, 0]) F8 (by decide) fun _ _ _ _ _ _ us ws h1 h2 => by
    match us, ws, h1, h2 with
    | [], [_, _, _], _, _ => rfl
  have mk : ∀ k, FnOk P w K mg base CX0 k f0 fd0 ["thing"] (SpF K (arOf PD 0) (run PD 200 k 0)) → FnOk P w K mg base CX0 k f1 fd1 ["thing", "low", "high"] (SpF K (arOf PD 1) (run PD 200 k 1)) → FnOk P w K mg base CX0 k f2 fd2 ["program", "yes"] (SpF K (arOf PD 2) (run PD 200 k 2)) → FnOk P w K mg base CX0 k f3 fd3 ["program", "way"] (SpF K (arOf PD 3) (run PD 200 k 3)) → FnOk P w K mg base CX0 k f4 fd4 ["program"] (SpF K (arOf PD 4) (run PD 200 k 4)) → FnOk P w K mg base CX0 k f5 fd5 ["program"] (SpF K (arOf PD 5) (run PD 200 k 5)) → FnOk P w K mg base CX0 k f6 fd6 ["setting"] (SpF K (arOf PD 6) (run PD 200 k 6)) → FnOk P w K mg base CX0 k f7 fd7 ["setting", "place", "marks", "yes"] (SpF K (arOf PD 7) (run PD 200 k 7)) → FnOk P w K mg base CX0 k f8 fd8 ["setting", "program", "way"] (SpF K (arOf PD 8) (run PD 200 k 8)) → FnOk P w K mg base CX0 k f9 fd9 ["setting", "program"] (SpF K (arOf PD 9) (run PD 200 k 9)) → FnOk P w K mg base CX0 k f10 fd10 ["setting", "box"] (SpF K (arOf PD 10) (run PD 200 k 10)) → FnOk P w K mg base CX0 k f11 fd11 ["setting"] (SpF K (arOf PD 11) (run PD 200 k 11)) → FnOk P w K mg base CX0 k f12 fd12 ["box", "place", "marks", "yes"] (SpF K (arOf PD 12) (run PD 200 k 12)) → FnOk P w K mg base CX0 k f13 fd13 ["setting", "program", "way"] (SpF K (arOf PD 13) (run PD 200 k 13)) → FnOk P w K mg base CX0 k f14 fd14 ["script"] (SpF K (arOf PD 14) (run PD 200 k 14)) → FnOk P w K mg base CX0 k f15 fd15 ["lamp", "place", "many"] (SpF K (arOf PD 15) (run PD 200 k 15)) → FnOk P w K mg base CX0 k f16 fd16 ["told", "due"] (SpF K (arOf PD 16) (run PD 200 k 16)) → FnOk P w K mg base CX0 k f17 fd17 ["lamp", "most"] (SpF K (arOf PD 17) (run PD 200 k 17)) → FnOk P w K mg base CX0 k f18 fd18 ["lamp", "setting", "looks"] (SpF K (arOf PD 18) (run PD 200 k 18)) → FnOk P w K mg base CX0 k f19 fd19 ["part"] (SpF K (arOf PD 19) (run PD 200 k 19)) → FnOk P w K mg base CX0 k f20 fd20 ["program"] (SpF K (arOf PD 20) (run PD 200 k 20)) → FnOk P w K mg base CX0 k f21 fd21 ["program"] (SpF K (arOf PD 21) (run PD 200 k 21)) → FnOk P w K mg base CX0 k f22 fd22 ["setting", "look", "yes"] (SpF K (arOf PD 22) (run PD 200 k 22)) → FnOk P w K mg base CX0 k f23 fd23 ["setting", "program"] (SpF K (arOf PD 23) (run PD 200 k 23)) → FnOk P w K mg base CX0 k f24 fd24 ["lamp", "setting"] (SpF K (arOf PD 24) (run PD 200 k 24)) → FnOk P w K mg base CX0 k f25 fd25 ["setting", "box"] (SpF K (arOf PD 25) (run PD 200 k 25)) → FnOk P w K mg base CX0 k f26 fd26 ["lamp", "setting", "program"] (SpF K (arOf PD 26) (run PD 200 k 26)) → FnOk P w K mg base CX0 k f27 fd27 [] (SpF K (arOf PD 27) (run PD 200 k 27)) → FnOk P w K mg base CX0 k f28 fd28 ["script"] (SpF K (arOf PD 28) (run PD 200 k 28)) → Hyp P w K mg base k := by
    intro k g0 g1 g2 g3 g4 g5 g6 g7 g8 g9 g10 g11 g12 g13 g14 g15 g16 g17 g18 g19 g20 g21 g22 g23 g24 g25 g26 g27 g28
    exact {
      c0 := ⟨f0, fd0, _, g0, m0, F0.kp, b0⟩
      c1 := ⟨f1, fd1, _, g1, m1, F1.kp, b1⟩
      c2 := ⟨f2, fd2, _, g2, m2, F2.kp, b2⟩
      c3 := ⟨f3, fd3, _, g3, m3, F3.kp, b3⟩
      c4 := ⟨f4, fd4, _, g4, m4, F4.kp, b4⟩
      c5 := ⟨f5, fd5, _, g5, m5, F5.kp, b5⟩
      c6 := ⟨f6, fd6, _, g6, m6, F6.kp, b6⟩
      c7 := ⟨f7, fd7, _, g7, m7, F7.kp, b7⟩
      c8 := ⟨f8, fd8, _, g8, m8, F8.kp, b8⟩
      c9 := ⟨f9, fd9, _, g9, m9, F9.kp, b9⟩
      c10 := ⟨f10, fd10, _, g10, m10, F10.kp, b10⟩
      c11 := ⟨f11, fd11, _, g11, m11, F11.kp, b11⟩
      c12 := ⟨f12, fd12, _, g12, m12, F12.kp, b12⟩
      c13 := ⟨f13, fd13, _, g13, m13, F13.kp, b13⟩
      c14 := ⟨f14, fd14, _, g14, m14, F14.kp, b14⟩
      c15 := ⟨f15, fd15, _, g15, m15, F15.kp, b15⟩
      c16 := ⟨f16, fd16, _, g16, m16, F16.kp, b16⟩
      c17 := ⟨f17, fd17, _, g17, m17, F17.kp, b17⟩
      c18 := ⟨f18, fd18, _, g18, m18, F18.kp, b18⟩
      c19 := ⟨f19, fd19, _, g19, m19, F19.kp, b19⟩
      c20 := ⟨f20, fd20, _, g20, m20, F20.kp, b20⟩
      c21 := ⟨f21, fd21, _, g21, m21, F21.kp, b21⟩
      c22 := ⟨f22, fd22, _, g22, m22, F22.kp, b22⟩
      c23 := ⟨f23, fd23, _, g23, m23, F23.kp, b23⟩
      c24 := ⟨f24, fd24, _, g24, m24, F24.kp, b24⟩
      c25 := ⟨f25, fd25, _, g25, m25, F25.kp, b25⟩
      c26 := ⟨f26, fd26, _, g26, m26, F26.kp, b26⟩
      c27 := ⟨f27, fd27, _, g27, m27, F27.kp, b27⟩
      c28 := ⟨f28, fd28, _, g28, m28, F28.kp, b28⟩
      k10_1_0_0 := ⟨f10, fd10, _, _, g10, m10, F10.kp, qk10_1_0_0⟩
      k7_3_2_1_0_0 := ⟨f7, fd7, _, _, g7, m7, F7.kp, qk7_3_2_1_0_0⟩
      k13_2_1_0_0 := ⟨f13, fd13, _, _, g13, m13, F13.kp, qk13_2_1_0_0⟩
      k9_1_0_0 := ⟨f9, fd9, _, _, g9, m9, F9.kp, qk9_1_0_0⟩
      k8_2_1_0_0 := ⟨f8, fd8, _, _, g8, m8, F8.kp, qk8_2_1_0_0⟩
      s19 := ⟨f19, "_law_depth", "part", tp19, fd19, _, _, _, _, _, F19, m19, (fun u s => by obtain ⟨oc, od, kV, doc, pm, an, cdv, ct, osl, rfl, lk, hcd⟩ := F19.ex; exact .of_eq rfl), sc19, rfl, by decide, rfl⟩
      n_abs := n_abs
      n_bool := n_bool
      n_int := n_int
      n_isinstance := n_isinstance
      n_len := n_len
      n_list := n_list
      n_max := n_max
      n_range := n_range
      n_sorted := n_sorted
      n_str := n_str
      n_sum := n_sum
      n_tuple := n_tuple
      n_zip := n_zip }
  intro k
  induction k with
  | zero => exact mk 0 (fn_zero rfl) (fn_zero rfl) (fn_zero rfl) (fn_zero rfl) (fn_zero rfl) (fn_zero rfl) (fn_zero rfl) (fn_zero rfl) (fn_zero rfl) (fn_zero rfl) (fn_zero rfl) (fn_zero rfl) (fn_zero rfl) (fn_zero rfl) (fn_zero rfl) (fn_zero rfl) (fn_zero rfl) (fn_zero rfl) (fn_zero rfl) (fn_zero rfl) (fn_zero rfl) (fn_zero rfl) (fn_zero rfl) (fn_zero rfl) (fn_zero rfl) (fn_zero rfl) (fn_zero rfl) (fn_zero rfl) (fn_zero rfl)
  | succ k ih => exact mk (k + 1) (w0 ih F0) (w1 ih F1) (w2 ih F2) (w3 ih F3) (w4 ih F4) (w5 ih F5) (w6 ih F6) (w7 ih F7) (w8 ih F8) (w9 ih F9) (w10 ih F10) (w11 ih F11) (w12 ih F12) (w13 ih F13) (w14 ih F14) (w15 ih F15) (w16 ih F16) (w17 ih F17) (w18 ih F18) (w19 ih F19) (w20 ih F20) (w21 ih F21) (w22 ih F22) (w23 ih F23) (w24 ih F24) (w25 ih F25) (w26 ih F26) (w27 ih F27) (w28 ih F28)
end
end K92

/-! K92, mathematics 1: what the texts' functions are worth on typed data. -/
namespace K92
open PySem Fw
abbrev R (k : Nat) := run PD 200 k
abbrev CC (k b : Nat) : Cc := ⟨run PD 200 k, 200, b⟩

/-! ### typed data -/
def eN (n : Nat) : D := .int n
def eP (p : Str × Nat) : D := .tup [.str p.1, .int p.2]
structure Stg where
  nm : List Str
  tr : D
  pl : List (Str × Nat)
def Stg.d (S : Stg) : D := .tup [.tup (S.nm.map .str), S.tr, .tup (S.pl.map eP)]
structure Stg.ok (S : Stg) : Prop where
  nl : S.nm.length ≤ 9
  n1 : 1 ≤ S.nm.length
  nz : ∀ x ∈ S.nm, x.length ≤ 10
  pl : S.pl.length ≤ 9
  p1 : 1 ≤ S.pl.length
  pz : ∀ x ∈ S.pl, x.1.length ≤ 10
  tc : S.tr.cl = true
def eB (b : Bool) : D := .int (if b then 1 else 0)
def eW (w : List Bool) : D := .tup (w.map eB)
inductive Pg where
  | tell (w : Str)
  | look (p : Nat) (ms : List Nat) (y n : Pg)
def eM (ms : List Nat) : D := .tup (ms.map eN)
def Pg.d : Pg → D
  | .tell w => .tup [.str "tell", .str w]
  | .look p ms y n => .tup [.str "look", .int p, eM ms, y.d, n.d]
def Pg.ok (S : Stg) : Pg → Prop
  | .tell w => w.length ≤ 10
  | .look p ms y n => p < S.pl.length ∧ ms ≠ [] ∧ ms.length ≤ 9 ∧ (∀ m ∈ ms, m < S.nm.length) ∧ y.ok S ∧ n.ok S
def Pg.sz : Pg → Nat
  | .tell _ => 1
  | .look _ _ y n => y.sz + n.sz + 1
def Pg.dep : Pg → Nat
  | .tell _ => 0
  | .look _ _ y n => max y.dep n.dep + 1
theorem Pg.sz_pos : ∀ p : Pg, 0 < p.sz
  | .tell _ => by simp [sz]
  | .look _ _ _ _ => by simp [sz]
theorem Pg.dep_lt : ∀ p : Pg, p.dep < p.sz
  | .tell _ => by simp [sz, dep]
  | .look _ _ y n => by
    have a := y.dep_lt; have b := n.dep_lt
    simp only [sz, dep]; omega
def Pg.leaves : Pg → List (List Bool × Str)
  | .tell w => [([], w)]
  | .look _ _ y n => (y.leaves.map fun l => (true :: l.1, l.2)) ++ (n.leaves.map fun l => (false :: l.1, l.2))
def Pg.looks : Pg → List (Nat × List Nat)
  | .tell _ => []
  | .look p ms y n => (p, ms) :: y.looks ++ n.looks
theorem Pg.leaves_len : ∀ p : Pg, p.leaves.length ≤ p.sz
  | .tell _ => by simp [leaves, sz]
  | .look _ _ y n => by
    have a := y.leaves_len; have b := n.leaves_len
    simp only [leaves, sz, List.length_append, List.length_map]; omega
theorem Pg.leaves_dep : ∀ p : Pg, ∀ l ∈ p.leaves, l.1.length ≤ p.dep
  | .tell _, l, h => by simp [leaves] at h; subst h; simp [dep]
  | .look _ _ y n, l, h => by
    simp only [leaves, List.mem_append, List.mem_map] at h
    rcases h with ⟨m, hm, rfl⟩ | ⟨m, hm, rfl⟩
    · have := y.leaves_dep m hm
      simp only [dep, List.length_cons]; omega
    · have := n.leaves_dep m hm
      simp only [dep, List.length_cons]; omega
theorem Pg.looks_len : ∀ p : Pg, p.looks.length ≤ p.sz
  | .tell _ => by simp [looks, sz]
  | .look _ _ y n => by
    have a := y.looks_len; have b := n.looks_len
    simp only [looks, sz, List.length_append, List.length_cons]; omega
def Pg.at : Pg → List Bool → Option Pg
  | p, [] => some p
  | .look _ _ y n, b :: w => (if b then y else n).at w
  | .tell _, _ :: _ => none

/-! ### no references -/
@[simp] theorem cl_N (n : Nat) : (eN n).cl = true := rfl
@[simp] theorem cl_B (b : Bool) : (eB b).cl = true := rfl
@[simp] theorem cl_M (ms : List Nat) : (eM ms).cl = true := by simp only [eM, D.cl]; exact clL_map cl_N ms
@[simp] theorem cl_W (ms : List Bool) : (eW ms).cl = true := by simp only [eW, D.cl]; exact clL_map cl_B ms
@[simp] theorem cl_P (p : Str × Nat) : (eP p).cl = true := by simp [eP, D.cl, clL]
@[simp] theorem cl_pg : ∀ p : Pg, p.d.cl = true
  | .tell w => by simp [Pg.d, D.cl, clL]
  | .look p ms y n => by simp [Pg.d, D.cl, clL, cl_pg y, cl_pg n]
theorem Stg.cl {S : Stg} (h : S.ok) : S.d.cl = true := by
  simp only [Stg.d, D.cl, clL, Bool.and_true, Bool.and_eq_true]
  exact ⟨clL_map (fun _ => rfl) _, h.tc, clL_map cl_P _⟩

/-! ### the functions -/
theorem c0 {k : Nat} (hk : 1 ≤ k) (x : Bool) (b : Nat) (s : Sto) : Cc.run ⟨run PD 200 k, 200, b⟩ true 0 [eB x] s = some (.bl true, s) := by
  obtain ⟨k, rfl⟩ := Nat.exists_eq_add_of_le' hk
  refine pure_call (by simp [clL]) (s' := []) ?_ rfl b s
  rw [run0]
  simp [Df.go, b0, isID, eB]
theorem c1 {k : Nat} (hk : 2 ≤ k) (x : Bool) (b : Nat) (s : Sto) : Cc.run ⟨run PD 200 k, 200, b⟩ true 1 [eB x, .int 0, .int 1] s = some (.bl true, s) := by
  obtain ⟨k, rfl⟩ := Nat.exists_eq_add_of_le' hk
  refine pure_call (by simp [clL, D.cl]) (s' := []) ?_ rfl b s
  rw [run1]
  have h0 := c0 (k := k + 1) (by omega) x 0
  simp [Df.go, b1, Es.of, h0, evCmp]
  cases x <;> simp [eB, evCmp]
theorem c2 {k : Nat} (hk : 1 ≤ k) (p : Nat) (ms : List Nat) (y n : Pg) (x : Bool) (b : Nat) (s : Sto) : Cc.run ⟨run PD 200 k, 200, b⟩ true 2 [(Pg.look p ms y n).d, eB x] s = some ((if x then y else n).d, s) := by
  obtain ⟨k, rfl⟩ := Nat.exists_eq_add_of_le' hk
  refine pure_call (by simp [clL]) (s' := []) ?_ (by simp) b s
  rw [run2]
  cases x <;> simp [Df.go, b2, eB, truD, Pg.d, atD]
@[simp] theorem sq_W (s : Sto) (w : List Bool) : seqSrc s (eW w) = some (.vals (w.map eB)) := rfl
@[simp] theorem sq_M (s : Sto) (w : List Nat) : seqSrc s (eM w) = some (.vals (w.map eN)) := rfl
@[simp] theorem at_look0 (s : Sto) (p : Nat) (ms : List Nat) (y n : Pg) : atD s (Pg.look p ms y n).d (.int 0) = some (.str "look") := rfl
@[simp] theorem at_look1 (s : Sto) (p : Nat) (ms : List Nat) (y n : Pg) : atD s (Pg.look p ms y n).d (.int 1) = some (.int p) := rfl
@[simp] theorem at_look2 (s : Sto) (p : Nat) (ms : List Nat) (y n : Pg) : atD s (Pg.look p ms y n).d (.int 2) = some (eM ms) := rfl
@[simp] theorem at_look3 (s : Sto) (p : Nat) (ms : List Nat) (y n : Pg) : atD s (Pg.look p ms y n).d (.int 3) = some y.d := rfl
@[simp] theorem at_look4 (s : Sto) (p : Nat) (ms : List Nat) (y n : Pg) : atD s (Pg.look p ms y n).d (.int 4) = some n.d := rfl
@[simp] theorem at_tell0 (s : Sto) (w : Str) : atD s (Pg.tell w).d (.int 0) = some (.str "tell") := rfl
@[simp] theorem at_tell1 (s : Sto) (w : Str) : atD s (Pg.tell w).d (.int 1) = some (.str w) := rfl
@[simp] theorem eq_look_tell : evCmp .eq (.str "look") (.str "tell") = some false := by decide +kernel
@[simp] theorem eq_tell_tell : evCmp .eq (.str "tell") (.str "tell") = some true := by decide +kernel
@[simp] theorem eq_tell_look : evCmp .eq (.str "tell") (.str "look") = some false := by decide +kernel
@[simp] theorem eq_look_look : evCmp .eq (.str "look") (.str "look") = some true := by decide +kernel
@[simp] theorem ne_look_look : evCmp .ne (.str "look") (.str "look") = some false := by decide +kernel
@[simp] theorem tru_bl (s : Sto) (b : Bool) : truD s (.bl b) = some b := rfl
@[simp] theorem tru_B (s : Sto) (b : Bool) : truD s (eB b) = some b := by cases b <;> rfl
theorem at_split : ∀ (p q : Pg) (u v : List Bool), p.at (u ++ v) = some q → ∃ r, p.at u = some r ∧ r.at v = some q
  | p, q, [], v, h => ⟨p, rfl, h⟩
  | .tell _, q, b :: u, v, h => by cases h
  | .look pl ms y n, q, b :: u, v, h => at_split (if b then y else n) q u v h
theorem at_cons {p q : Pg} {b : Bool} {w : List Bool} (h : p.at (b :: w) = some q) : ∃ pl ms y n, p = .look pl ms y n ∧ (if b then y else n).at w = some q := by
  cases p with
  | tell _ => cases h
  | look pl ms y n => exact ⟨pl, ms, y, n, rfl, h⟩
theorem at_snoc : ∀ (p : Pg) (u : List Bool) (b : Bool) (pl : Nat) (ms : List Nat) (y n : Pg), p.at u = some (.look pl ms y n) → p.at (u ++ [b]) = some (if b then y else n)
  | p, [], b, pl, ms, y, n, h => by cases h; rfl
  | .tell _, _ :: _, _, _, _, _, _, h => by cases h
  | .look _ _ y' n', c :: u, b, pl, ms, y, n, h => at_snoc (if c then y' else n') u b pl ms y n h
theorem c3 {k : Nat} (hk : 3 ≤ k) (p q : Pg) (w : List Bool) (h : p.at w = some q) (b : Nat) (s : Sto) : Cc.run ⟨run PD 200 k, 200, b⟩ true 3 [p.d, eW w] s = some (q.d, s) := by
  obtain ⟨k, rfl⟩ := Nat.exists_eq_add_of_le' hk
  refine pure_call (by simp [clL]) (s' := []) ?_ (by simp) b s
  obtain ⟨env', s', h1, x, r, h2, rfl, rfl⟩ := forE_inv (C := ⟨run PD 200 (k + 2), 200, 0⟩) (g := .name 3) (b := b3_1) (env := [some p.d, some (eW w), some p.d, none]) (s := []) eB
    (fun pre env s => ∃ x r, p.at pre = some r ∧ env = [some p.d, some (eW w), some r.d, x] ∧ s = []) w ⟨none, p, rfl, rfl, rfl⟩ (by
      rintro pre y post _ _ hl ⟨x, r, hr, rfl, rfl⟩
      subst hl
      obtain ⟨r', h1, h2⟩ := at_split _ _ _ _ h
      rw [hr] at h1
      cases h1
      obtain ⟨pl, ms, yy, nn, rfl, h3⟩ := at_cons h2
      refine ⟨_, [some p.d, some (eW (pre ++ y :: post)), some (if y then yy else nn).d, some (eB y)], [], rfl, ?_, _, _, at_snoc _ _ y _ _ _ _ hr, rfl, rfl⟩
      simp [b3_1, Es.of, asgG, c1 (k := k + 2) (by omega), c2 (k := k + 2) (by omega)])
  rw [h] at h2
  cases h2
  rw [run3]
  simp [Df.go, b3, asgG, h1]

theorem addT (a b : List D) (h : a.length + b.length ≤ 1000000) : evBin .add (.tup a) (.tup b) = some (.tup (a ++ b)) := if_pos h
theorem addL (a b : List D) (h : a.length + b.length ≤ 1000000) : evBin .add (.lst a) (.lst b) = some (.lst (a ++ b)) := if_pos h
theorem addS (a b : Str) (h : a.length + b.length ≤ 1000000) : evBin .add (.str a) (.str b) = some (.str (a ++ b)) := if_pos h

/-! leaves_of -/
def eL (l : List Bool × Str) : D := .tup [eW l.1, .str l.2]
def lvD (p : Pg) : D := .tup (p.leaves.map eL)
@[simp] theorem cl_L (l : List Bool × Str) : (eL l).cl = true := by simp [eL, D.cl, clL]
@[simp] theorem cl_lv (p : Pg) : (lvD p).cl = true := by simp only [lvD, D.cl]; exact clL_map cl_L _
@[simp] theorem sq_lv (s : Sto) (p : Pg) : seqSrc s (lvD p) = some (.vals (p.leaves.map eL)) := rfl
theorem t4 (k b : Nat) (env : En) (he : env.length = 4) (c : Bool) (e : E) (hb : e = .tup (Es.of [.bin .add (.tup (Es.of [.int (if c then 1 else 0)])) (.var 2), .var 3])) (l : List Bool × Str) (hl : l.1.length ≤ 1000) (s : Sto) :
    lcF ⟨run PD 200 k, 200, b⟩ env (.tup (Gs.of [.name 2, .name 3])) .yes e [2, 3] (eL l) s = some (some (eL (c :: l.1, l.2)), s) := by
  obtain ⟨x0, x1, x2, x3, rfl⟩ : ∃ x0 x1 x2 x3, env = [x0, x1, x2, x3] := by
    match env, he with
    | [a, b, c, d], _ => exact ⟨a, b, c, d, rfl⟩
  subst hb
  have h1 : evBin .add (.tup [.int (if c then 1 else 0)]) (eW l.1) = some (eW (c :: l.1)) := by
    unfold eW
    rw [addT _ _ (by simp; omega)]
    rfl
  simp [lcF, Gs.of, Es.of, asgG, asgGs, eL, wipeD, h1, ZL]
theorem c4 : ∀ (p : Pg) {k : Nat}, p.dep + 1 ≤ k → p.sz ≤ 1000 → ∀ (b : Nat) (s : Sto), Cc.run ⟨run PD 200 k, 200, b⟩ true 4 [p.d] s = some (lvD p, s)
  | .tell w, k, hk, hz, b, s => by
    obtain ⟨k, rfl⟩ := Nat.exists_eq_add_of_le' (show 1 ≤ k by omega)
    refine pure_call (by simp [clL]) (s' := []) ?_ (by simp) b s
    rw [run4]
    simp [Df.go, b4, Es.of, lvD, Pg.leaves, eL, eW, Pg.dep, ZL]
  | .look pl ms y n, k, hk, hz, b, s => by
    simp only [Pg.dep] at hk
    obtain ⟨k, rfl⟩ := Nat.exists_eq_add_of_le' (show 1 ≤ k by omega)
    refine pure_call (by simp [clL]) (s' := []) ?_ (by simp) b s
    simp only [Pg.sz] at hz
    have hy := c4 y (k := k) (by omega) (by omega) 0 []
    have hn := c4 n (k := k) (by omega) (by omega) 0 []
    have ly := y.leaves_len; have ln := n.leaves_len
    have dy : ∀ l ∈ y.leaves, l.1.length ≤ 1000 := fun l h => by have a := y.leaves_dep l h; have b := y.dep_lt; omega
    have dn : ∀ l ∈ n.leaves, l.1.length ≤ 1000 := fun l h => by have a := n.leaves_dep l h; have b := n.dep_lt; omega
    have e1 := lc_map (C := ⟨run PD 200 k, 200, 0⟩) (env := [some (Pg.look pl ms y n).d, none, none, none]) (g := .tup (Gs.of [.name 2, .name 3])) (t := .yes) (e := b4_2) (own := [2, 3]) (s := []) eL (fun l => eL (true :: l.1, l.2)) y.leaves (by omega) fun l h => t4 k 0 _ rfl true _ rfl l (dy l h) []
    have e2 := fun (x : Option D) => lc_map (C := ⟨run PD 200 k, 200, 0⟩) (env := [some (Pg.look pl ms y n).d, x, none, none]) (g := .tup (Gs.of [.name 2, .name 3])) (t := .yes) (e := b4_1) (own := [2, 3]) (s := []) eL (fun l => eL (false :: l.1, l.2)) n.leaves (by omega) fun l h => t4 k 0 _ rfl false _ rfl l (dn l h) []
    have e3 := addL (y.leaves.map fun l => eL (true :: l.1, l.2)) (n.leaves.map fun l => eL (false :: l.1, l.2)) (by simp only [List.length_map]; omega)
    rw [run4]
    simp only [Df.go, b4]
    simp [Es.of, asgG, hy, hn, e1, e2, e3, evB1, listD]
    simp [lvD, Pg.leaves, Function.comp_def]

/-! looks_of -/
def eK (l : Nat × List Nat) : D := .tup [.int l.1, eM l.2]
def loD (p : Pg) : D := .tup (p.looks.map eK)
@[simp] theorem cl_K (l : Nat × List Nat) : (eK l).cl = true := by simp [eK, D.cl, clL]
@[simp] theorem cl_lo (p : Pg) : (loD p).cl = true := by simp only [loD, D.cl]; exact clL_map cl_K _
theorem c5 : ∀ (p : Pg) {k : Nat}, p.dep + 1 ≤ k → p.sz ≤ 1000 → ∀ (b : Nat) (s : Sto), Cc.run ⟨run PD 200 k, 200, b⟩ true 5 [p.d] s = some (loD p, s)
  | .tell w, k, hk, hz, b, s => by
    obtain ⟨k, rfl⟩ := Nat.exists_eq_add_of_le' (show 1 ≤ k by omega)
    refine pure_call (by simp [clL]) (s' := []) ?_ (by simp) b s
    rw [run5]
    simp [Df.go, b5, Es.of, loD, Pg.looks, ZL]
  | .look pl ms y n, k, hk, hz, b, s => by
    simp only [Pg.dep] at hk
    obtain ⟨k, rfl⟩ := Nat.exists_eq_add_of_le' (show 1 ≤ k by omega)
    refine pure_call (by simp [clL]) (s' := []) ?_ (by simp) b s
    simp only [Pg.sz] at hz
    have hy := c5 y (k := k) (by omega) (by omega) 0 []
    have hn := c5 n (k := k) (by omega) (by omega) 0 []
    have ly := y.looks_len; have ln := n.looks_len
    have e1 : evBin .add (.tup [.tup [.int pl, eM ms]]) (loD y) = some (.tup (.tup [.int pl, eM ms] :: y.looks.map eK)) := addT _ _ (by simp only [List.length_map, List.length_cons, List.length_nil]; omega)
    have e2 : evBin .add (.tup (.tup [.int pl, eM ms] :: y.looks.map eK)) (loD n) = some (.tup ((.tup [.int pl, eM ms] :: y.looks.map eK) ++ n.looks.map eK)) := addT _ _ (by simp only [List.length_map, List.length_cons]; omega)
    rw [run5]
    simp only [Df.go, b5]
    simp [Es.of, hy, hn, e1, e2, ZL]
    simp [loD, Pg.looks, eK]

/-! names_of -/
def nmD (S : Stg) : D := .tup (S.pl.map fun p => .str p.1)
@[simp] theorem cl_nm (S : Stg) : (nmD S).cl = true := by simp only [nmD, D.cl]; exact clL_map (fun _ => rfl) _
@[simp] theorem at_S0 (s : Sto) (S : Stg) : atD s S.d (.int 0) = some (.tup (S.nm.map .str)) := rfl
@[simp] theorem at_S2 (s : Sto) (S : Stg) : atD s S.d (.int 2) = some (.tup (S.pl.map eP)) := rfl
@[simp] theorem sq_tup (s : Sto) (l : List D) : seqSrc s (.tup l) = some (.vals l) := rfl
@[simp] theorem sq_lst (s : Sto) (l : List D) : seqSrc s (.lst l) = some (.vals l) := rfl
theorem c6 {S : Stg} (hS : S.ok) {k : Nat} (hk : 1 ≤ k) (b : Nat) (s : Sto) : Cc.run ⟨run PD 200 k, 200, b⟩ true 6 [S.d] s = some (nmD S, s) := by
  obtain ⟨k, rfl⟩ := Nat.exists_eq_add_of_le' hk
  refine pure_call (by simp [clL, Stg.cl hS]) (s' := []) ?_ (by simp) b s
  have hp := hS.pl
  have e1 := lc_map (C := ⟨run PD 200 k, 200, 0⟩) (env := [some S.d, none, none]) (g := .tup (Gs.of [.name 1, .name 2])) (t := .yes) (e := b6_1) (own := [1, 2]) (s := []) eP (fun p => .str p.1) S.pl (by omega) fun p _ => by
    simp [lcF, Gs.of, asgG, asgGs, eP, wipeD, b6_1]
  rw [run6]
  simp only [Df.go, b6]
  simp [Es.of, e1, evB1, listD, nmD]

/-! look_in_words -/
def mk (S : Stg) (m : Nat) : Str := S.nm.getD m Str.empty
def nmAt (S : Stg) (p : Nat) : Str := (S.pl.getD p (Str.empty, 0)).1
theorem at_nm {S : Stg} {m : Nat} (h : m < S.nm.length) (s : Sto) : atD s (.tup (S.nm.map .str)) (eN m) = some (.str (mk S m)) := by
  simp [atD, eN, mk, h]
theorem at_nmD {S : Stg} {m : Nat} (h : m < S.pl.length) (s : Sto) : atD s (nmD S) (.int m) = some (.str (nmAt S m)) := by
  simp [atD, nmD, nmAt, h]
theorem mk_len {S : Stg} (hS : S.ok) (m : Nat) : (mk S m).length ≤ 10 := by
  unfold mk
  by_cases h : m < S.nm.length
  · rw [List.getD_eq_getElem?_getD, List.getElem?_eq_getElem h]; exact hS.nz _ (List.getElem_mem h)
  · rw [List.getD_eq_getElem?_getD, List.getElem?_eq_none (by omega)]; exact Nat.zero_le _
theorem nmAt_len {S : Stg} (hS : S.ok) (m : Nat) : (nmAt S m).length ≤ 10 := by
  unfold nmAt
  by_cases h : m < S.pl.length
  · rw [List.getD_eq_getElem?_getD, List.getElem?_eq_getElem h]; exact hS.pz _ (List.getElem_mem h)
  · rw [List.getD_eq_getElem?_getD, List.getElem?_eq_none (by omega)]; exact Nat.zero_le _
def marksW (S : Stg) (ms : List Nat) : Str := Txt.join " or " (ms.map (mk S))
def showsW (b : Bool) : Str := if b then " shows " else " shows no "
def lookW (S : Stg) (p : Nat) (ms : List Nat) (b : Bool) : Str := nmAt S p ++ showsW b ++ marksW S ms
theorem shows_len (b : Bool) : (showsW b).length ≤ 10 := by cases b <;> decide +kernel
theorem marks_fit {S : Stg} (hS : S.ok) {ms : List Nat} (hm : ms.length ≤ 9) : ((ms.map (mk S)).map (·.length)).sum + (ms.map (mk S)).length * (Str.ofString " or ").length ≤ 1000 := by
  have := join_le (sep := " or ") (ys := ms.map (mk S)) (n := 10) (m := 9) (k := 4) (fun y hy => by obtain ⟨m, _, rfl⟩ := List.mem_map.mp hy; exact mk_len hS m) (by rw [List.length_map]; exact hm) (by decide +kernel)
  omega
theorem marks_len {S : Stg} (hS : S.ok) {ms : List Nat} (hm : ms.length ≤ 9) : (marksW S ms).length ≤ 1000 := Nat.le_trans (join_len _ _) (marks_fit hS hm)
theorem look_len {S : Stg} (hS : S.ok) {ms : List Nat} (hm : ms.length ≤ 9) (p : Nat) (b : Bool) : (lookW S p ms b).length ≤ 1020 := by
  have a := marks_len hS hm; have c := nmAt_len hS p; have d := shows_len b
  unfold lookW
  rw [Str.length_append, Str.length_append]; omega
theorem c7 {S : Stg} (hS : S.ok) {k : Nat} (hk : 2 ≤ k) {p : Nat} (hp : p < S.pl.length) {ms : List Nat} (hl : ms.length ≤ 9) (hm : ∀ m ∈ ms, m < S.nm.length) (x : Bool) (b : Nat) (s : Sto) :
    Cc.run ⟨run PD 200 k, 200, b⟩ true 7 [S.d, .int p, eM ms, eB x] s = some (.str (lookW S p ms x), s) := by
  obtain ⟨k, rfl⟩ := Nat.exists_eq_add_of_le' hk
  refine pure_call (by simp [clL, Stg.cl hS, D.cl]) (s' := []) ?_ rfl b s
  have e1 := lc_map (C := ⟨run PD 200 (k + 1), 200, 0⟩) (env := [some S.d, some (.int p), some (eM ms), some (eB x), none, none]) (g := .name 5) (t := .yes) (e := b7_1) (own := [5]) (s := []) eN (fun m => .str (mk S m)) ms (by omega) fun m h => by
    simp [lcF, asgG, wipeD, b7_1, at_nm (hm m h)]
  have e2 := joinF_ok " or " (mk S) ms [] (Nat.le_trans (marks_fit hS hl) (by decide))
  have a := marks_len hS hl; have c := nmAt_len hS p; have d := shows_len x
  have e4 := addS (nmAt S p) (showsW x) (by omega)
  have e5 := addS (nmAt S p ++ showsW x) (marksW S ms) (by rw [Str.length_append]; omega)
  have h6 := c6 hS (k := k + 1) (by omega) 0
  rw [run7]
  simp only [Df.go, b7]
  rw [show Txt.join " or " (ms.map (mk S)) = marksW S ms from rfl] at e2
  have e7 := at_nmD hp
  cases x with
  | true =>
    rw [show showsW true = " shows " from rfl] at e4 e5
    simp [Es.of, asgG, e1, e2, h6, e7, e4, e5]
    rfl
  | false =>
    rw [show showsW false = " shows no " from rfl] at e4 e5
    simp [Es.of, asgG, e1, e2, h6, e7, e4, e5]
    rfl
end K92

/-! K92, mathematics 2: words, boxes. -/
namespace K92
open PySem Fw
theorem ok_at {S : Stg} : ∀ (p q : Pg) (u : List Bool), p.ok S → p.at u = some q → q.ok S
  | p, q, [], h, e => by cases e; exact h
  | .tell _, q, _ :: _, h, e => by cases e
  | .look _ _ y n, q, c :: u, h, e => ok_at (if c then y else n) q u (by
      simp only [Pg.ok] at h
      cases c
      · exact h.2.2.2.2.2
      · exact h.2.2.2.2.1) e
theorem len_at : ∀ (p q : Pg) (u : List Bool), p.at u = some q → u.length + q.dep ≤ p.dep
  | p, q, [], e => by cases e; simp
  | .tell _, q, _ :: _, e => by cases e
  | .look _ _ y n, q, c :: u, e => by
    have := len_at (if c then y else n) q u e
    simp only [Pg.dep, List.length_cons]
    cases c <;> simp at this <;> omega
/-! way_words -/
def wayW (S : Stg) : Pg → List Bool → List Str
  | _, [] => []
  | .tell _, _ :: _ => []
  | .look p ms y n, b :: w => lookW S p ms b :: wayW S (if b then y else n) w
theorem wayW_snoc (S : Stg) : ∀ (p : Pg) (u : List Bool) (b : Bool) (pl : Nat) (ms : List Nat) (y n : Pg), p.at u = some (.look pl ms y n) → wayW S p (u ++ [b]) = wayW S p u ++ [lookW S pl ms b]
  | p, [], b, pl, ms, y, n, h => by cases h; cases b <;> simp [wayW]
  | .tell _, _ :: _, _, _, _, _, _, h => by cases h
  | .look _ _ y' n', c :: u, b, pl, ms, y, n, h => by
    have := wayW_snoc S (if c then y' else n') u b pl ms y n h
    simp only [wayW, List.cons_append, this]
theorem wayW_len (S : Stg) : ∀ (p : Pg) (u : List Bool), (wayW S p u).length ≤ u.length
  | _, [] => by simp [wayW]
  | .tell _, _ :: _ => by simp [wayW]
  | .look _ _ y n, b :: w => by simp only [wayW, List.length_cons]; have := wayW_len S (if b then y else n) w; omega
theorem wayW_in {S : Stg} (hS : S.ok) : ∀ (p : Pg) (u : List Bool), p.ok S → ∀ x ∈ wayW S p u, x.length ≤ 1020
  | _, [], _, x, h => by simp [wayW] at h
  | .tell _, _ :: _, _, x, h => by simp [wayW] at h
  | .look pl ms y n, b :: w, hp, x, h => by
    simp only [wayW, List.mem_cons] at h
    simp only [Pg.ok] at hp
    rcases h with rfl | h
    · exact look_len hS hp.2.2.1 _ _
    · exact wayW_in hS (if b then y else n) w (by cases b; exact hp.2.2.2.2.2; exact hp.2.2.2.2.1) x h
def wwD (S : Stg) (p : Pg) (w : List Bool) : D := .lst ((wayW S p w).map .str)
@[simp] theorem cl_ww (S : Stg) (p : Pg) (w : List Bool) : (wwD S p w).cl = true := by simp only [wwD, D.cl]; exact clL_map (fun _ => rfl) _
theorem c8 {S : Stg} (hS : S.ok) {k : Nat} (hk : 3 ≤ k) {p q : Pg} (hp : p.ok S) {w : List Bool} (hw : w.length ≤ 1000) (h : p.at w = some q) (b : Nat) (s : Sto) :
    Cc.run ⟨run PD 200 k, 200, b⟩ true 8 [S.d, p.d, eW w] s = some (wwD S p w, s) := by
  obtain ⟨k, rfl⟩ := Nat.exists_eq_add_of_le' hk
  obtain ⟨env', s', h1, x, r, h2, rfl, rfl⟩ := forE_inv (C := ⟨run PD 200 (k + 2), 200, 0⟩) (g := .name 4) (b := b8_1) (env := [some S.d, some p.d, some (eW w), some (.obj 0), none]) (s := [some (.lst [])]) eB
    (fun pre env s => ∃ x r, p.at pre = some r ∧ env = [some S.d, some r.d, some (eW w), some (.obj 0), x] ∧ s = [some (.lst ((wayW S p pre).map .str))]) w ⟨none, p, rfl, rfl, rfl⟩ (by
      rintro pre y post _ _ hl ⟨x, r, hr, rfl, rfl⟩
      subst hl
      obtain ⟨r', h1, h2⟩ := at_split _ _ _ _ h
      rw [hr] at h1
      cases h1
      obtain ⟨pl, ms, yy, nn, rfl, h3⟩ := at_cons h2
      have ho := ok_at _ _ _ hp hr
      simp only [Pg.ok] at ho
      have e7 := c7 hS (k := k + 2) (by omega) ho.1 ho.2.2.1 ho.2.2.2.1 y 0
      have hl := wayW_len S p pre
      have hl2 : (wayW S p pre).length < ZL := by
        simp only [List.length_append, List.length_cons] at hw
        show _ < 1000000
        omega
      refine ⟨_, [some S.d, some (if y then yy else nn).d, some (eW (pre ++ y :: post)), some (.obj 0), some (eB y)], [some (.lst ((wayW S p (pre ++ [y])).map .str))], rfl, ?_, _, _, at_snoc _ _ y _ _ _ _ hr, rfl, rfl⟩
      rw [wayW_snoc S _ _ y _ _ _ _ hr]
      cases y <;> simp [b8_1, Es.of, asgG, e7, getO, setO, hl2])
  refine pure_call (by simp [clL, Stg.cl hS]) (s' := [none]) ?_ (by simp) b s
  rw [run8]
  simp only [Df.go, b8]
  simp [Es.of, asgG, h1, frzS, getO, setO, ZL, wwD]

/-! in_words -/
def andW (x : List Str) : Str := if x.isEmpty then " always" else " if " ++ Txt.join " and " x
def lineW (S : Stg) (p : Pg) (l : List Bool × Str) : Str := l.2 ++ andW (wayW S p l.1)
def iwD (S : Stg) (p : Pg) : D := .lst (p.leaves.map fun l => .str (lineW S p l))
@[simp] theorem cl_iw (S : Stg) (p : Pg) : (iwD S p).cl = true := by simp only [iwD, D.cl]; exact clL_map (fun _ => rfl) _
theorem leaves_at : ∀ (p : Pg) (l : List Bool × Str), l ∈ p.leaves → p.at l.1 = some (.tell l.2)
  | .tell w, l, h => by simp [Pg.leaves] at h; subst h; rfl
  | .look _ _ y n, l, h => by
    simp only [Pg.leaves, List.mem_append, List.mem_map] at h
    rcases h with ⟨m, hm, rfl⟩ | ⟨m, hm, rfl⟩
    · exact leaves_at y m hm
    · exact leaves_at n m hm
theorem and_fit {x : List Str} {n : Nat} (h : ∀ y ∈ x, y.length ≤ 1020) (hl : x.length ≤ 500) : (x.map (·.length)).sum + x.length * (Str.ofString " and ").length ≤ 512500 := by
  have := join_le (sep := " and ") (ys := x) (n := 1020) (m := 500) (k := 5) h hl (by decide +kernel)
  omega
theorem joinS (x : Str) (l : List Str) (s : Sto) (h : (l.map (·.length)).sum + l.length * x.length ≤ 1000000) : joinF (.str x) (.lst (l.map .str)) s = some (.str (Txt.join x l), s) := by
  have := joinF_ok x id l s (by simpa using h)
  simpa using this
/-- word + (' if ' + ' and '.join(told) if told else ' always') -/
theorem e_and (C : Cc) (env : En) (i j : Nat) (w : Str) (x : List Str) (s : Sto) (hi : env[i]? = some (some (.str w))) (hj : env[j]? = some (some (.lst (x.map .str)))) (hw : w.length ≤ 10) (h : ∀ y ∈ x, y.length ≤ 1020) (hl : x.length ≤ 500) :
    evE C env (.bin .add (.var i) (.ife (.tru (.var j)) (.bin .add (.str " if ") (.join (.str " and ") (.var j))) (.str " always"))) s = some (.str (w ++ andW x), s) := by
  have f := and_fit (n := 0) h hl
  have a := Nat.le_trans (join_len " and " x) f
  have e1 := joinS " and " x s (Nat.le_trans f (by decide))
  have c1 : (Str.ofString " if ").length = 4 := by decide +kernel
  have c2 : (Str.ofString " always").length = 7 := by decide +kernel
  have e2 := addS " if " (Txt.join " and " x) (by rw [c1]; omega)
  have e3 := addS w (" if " ++ Txt.join " and " x) (by rw [Str.length_append, c1]; omega)
  have e4 := addS w " always" (by rw [c2]; omega)
  cases x with
  | nil => simp [hi, hj, truD, e4, andW]
  | cons y r => simp only [evE_bin, evE_var, hi, hj, Option.bind_some, evE_ife, evT_tru, truD, List.map_cons, List.isEmpty_cons, Bool.not_false, Option.map_some, evE_str, evE_join]; rw [← List.map_cons (f := D.str), e1]; simp only [Option.bind_some, e2, Option.map_some, e3]; rfl
theorem c9 {S : Stg} (hS : S.ok) {k : Nat} {p : Pg} (hk : p.dep + 4 ≤ k) (hp : p.ok S) (hz : p.sz ≤ 400) (b : Nat) (s : Sto) :
    Cc.run ⟨run PD 200 k, 200, b⟩ true 9 [S.d, p.d] s = some (iwD S p, s) := by
  obtain ⟨k, rfl⟩ := Nat.exists_eq_add_of_le' (show 4 ≤ k by omega)
  have hd := p.dep_lt
  have hlv := p.leaves_len
  obtain ⟨env', s', h1, x1, x2, x3, rfl, rfl⟩ := forE_inv (C := ⟨run PD 200 (k + 3), 200, 0⟩) (g := .tup (Gs.of [.name 3, .name 4])) (b := b9_1) (env := [some S.d, some p.d, some (.obj 0), none, none, none]) (s := [some (.lst [])]) eL
    (fun pre env s => ∃ x1 x2 x3, env = [some S.d, some p.d, some (.obj 0), x1, x2, x3] ∧ s = [some (.lst (pre.map fun l => .str (lineW S p l)))]) p.leaves ⟨none, none, none, rfl, rfl⟩ (by
      rintro pre l post _ _ hl ⟨x1, x2, x3, rfl, rfl⟩
      have hm : l ∈ p.leaves := by rw [hl]; simp
      have ha := leaves_at p l hm
      have hle := p.leaves_dep l hm
      have how := ok_at _ _ _ hp ha
      simp only [Pg.ok] at how
      have e8 := c8 hS (k := k + 3) (by omega) hp (w := l.1) (by omega) ha 0
      have hl2 : pre.length < ZL := by
        have := congrArg List.length hl
        simp only [List.length_append, List.length_cons] at this
        show _ < 1000000
        omega
      have e9 := e_and ⟨run PD 200 (k + 3), 200, 0⟩ [some S.d, some p.d, some (.obj 0), some (eW l.1), some (.str l.2), some (wwD S p l.1)] 4 5 l.2 (wayW S p l.1) [some (.lst (pre.map fun l => .str (lineW S p l)))] rfl rfl how (wayW_in hS p l.1 hp) (by have := wayW_len S p l.1; omega)
      refine ⟨_, [some S.d, some p.d, some (.obj 0), some (eW l.1), some (.str l.2), some (wwD S p l.1)], [some (.lst ((pre ++ [l]).map fun l => .str (lineW S p l)))], rfl, ?_, _, _, _, rfl, rfl⟩
      simp only [b9_1, exSs_cons, exS_asg, exS_expr, evE_call, Es.of, evEs_cons, evEs_nil, evE_var]
      simp [e8, asgG, -evE_bin]
      rw [e9]
      simp [getO, setO, hl2, lineW])
  refine pure_call (by simp [clL, Stg.cl hS]) (s' := [none]) ?_ (by simp) b s
  have e4 := c4 p (k := k + 3) (by omega) (by omega) 0
  rw [run9]
  simp only [Df.go, b9]
  simp [Es.of, asgG, e4, h1, frzS, getO, setO, ZL, iwD]
end K92

/-! K92, mathematics 3: boxes. -/
namespace K92
open PySem Fw
def bxD (box : List (List Nat)) : D := .tup (box.map eM)
@[simp] theorem cl_bx (box : List (List Nat)) : (bxD box).cl = true := by simp only [bxD, D.cl]; exact clL_map cl_M _
structure BoxOk (S : Stg) (box : List (List Nat)) : Prop where
  len : box.length = S.pl.length
  el : ∀ ms ∈ box, ms.length ≤ 9 ∧ ∀ m ∈ ms, m < S.nm.length
/-! box_words -/
def boxW (S : Stg) (q : (Str × Nat) × List Nat) : Str := Txt.join " " (q.1.1 :: q.2.map (mk S))
def bwD (S : Stg) (box : List (List Nat)) : D := .lst ((S.pl.zip box).map fun q => .str (boxW S q))
@[simp] theorem cl_bw (S : Stg) (box : List (List Nat)) : (bwD S box).cl = true := by simp only [bwD, D.cl]; exact clL_map (fun _ => rfl) _
theorem zip_names (S : Stg) (box : List (List Nat)) (h : box.length = S.pl.length) : zipSrc (nmD S) (bxD box) = some (.vals ((S.pl.zip box).map fun q => .tup [.str q.1.1, eM q.2])) := by
  simp only [zipSrc, nmD, bxD, List.length_map, h, if_true, List.zipWith_map, List.zip, List.map_zipWith]
theorem box_fit {S : Stg} (hS : S.ok) {x : Str} {ms : List Nat} (hx : x.length ≤ 10) (hm : ms.length ≤ 9) : ((x :: ms.map (mk S)).map (·.length)).sum + (x :: ms.map (mk S)).length * (Str.ofString " ").length ≤ 110 := by
  have := join_le (sep := " ") (ys := x :: ms.map (mk S)) (n := 10) (m := 10) (k := 1) (fun y hy => by
    rcases List.mem_cons.mp hy with rfl | hy
    · exact hx
    · obtain ⟨m, _, rfl⟩ := List.mem_map.mp hy; exact mk_len hS m) (by rw [List.length_cons, List.length_map]; omega) (by decide +kernel)
  omega
/-- the marks' words -/
theorem lc_mk {S : Stg} (C : Cc) (env : En) (i j n : Nat) (hi : env.length = n) (hij : i ≠ j) (hj : j < n) (h0 : env[i]? = some (some S.d)) (ms : List Nat) (hl : ms.length ≤ 9) (hm : ∀ m ∈ ms, m < S.nm.length) (e : E) (he : e = .idx (.idx (.var i) (.int 0)) (.var j)) (s : Sto) :
    srcGo (lcF C env (.name j) .yes e [j]) (.vals (ms.map eN)) s = some (ms.map fun m => .str (mk S m), s) := by
  subst he
  refine lc_map eN (fun m => .str (mk S m)) ms (by omega) fun m h => ?_
  have g1 : ((wipeD env [j]).set j (some (eN m)))[i]? = some (some S.d) := by
    simp only [wipeD]
    rw [List.getElem?_set_ne (Ne.symm hij), List.getElem?_set_ne (Ne.symm hij)]; exact h0
  have g2 : ((wipeD env [j]).set j (some (eN m)))[j]? = some (some (eN m)) := by
    simp only [wipeD]
    rw [List.getElem?_set_self (by simp; omega)]
  simp [lcF, asgG, g1, g2, at_nm (hm m h)]
theorem c10 {S : Stg} (hS : S.ok) {k : Nat} (hk : 2 ≤ k) {box : List (List Nat)} (hb : BoxOk S box) (b : Nat) (s : Sto) : Cc.run ⟨run PD 200 k, 200, b⟩ true 10 [S.d, bxD box] s = some (bwD S box, s) := by
  obtain ⟨k, rfl⟩ := Nat.exists_eq_add_of_le' hk
  obtain ⟨env', s', h1, x1, x2, x3, rfl, rfl⟩ := forE_inv (C := ⟨run PD 200 (k + 1), 200, 0⟩) (g := .tup (Gs.of [.name 3, .name 4])) (b := b10_2) (env := [some S.d, some (bxD box), some (.obj 0), none, none, none]) (s := [some (.lst [])]) (fun q : (Str × Nat) × List Nat => .tup [.str q.1.1, eM q.2])
    (fun pre env s => ∃ x1 x2 x3, env = [some S.d, some (bxD box), some (.obj 0), x1, x2, x3] ∧ s = [some (.lst (pre.map fun l => .str (boxW S l)))]) (S.pl.zip box) ⟨none, none, none, rfl, rfl⟩ (by
      rintro pre ⟨p, ms⟩ post _ _ hl ⟨x1, x2, x3, rfl, rfl⟩
      have hmem : (p, ms) ∈ S.pl.zip box := by rw [hl]; simp
      have hp := hS.pz p (List.of_mem_zip hmem).1
      have hms := hb.el ms (List.of_mem_zip hmem).2
      have hlen := congrArg List.length hl
      simp only [List.length_append, List.length_cons, List.length_zip] at hlen
      have hl9 := hS.pl
      have hl2 : pre.length < 1000000 := by omega
      have e1 := lc_mk (S := S) ⟨run PD 200 (k + 1), 200, 0⟩ [some S.d, some (bxD box), some (.obj 0), some (.str p.1), some (eM ms), x3] 0 5 6 rfl (by decide) (by decide) rfl ms hms.1 hms.2 b10_1 rfl [some (.lst (pre.map fun l => .str (boxW S l)))]
      have e2 := addL [.str p.1] (ms.map fun m => .str (mk S m)) (by simp; omega)
      have e3 := joinS " " (p.1 :: ms.map (mk S)) [some (.lst (pre.map fun l => .str (boxW S l)))] (Nat.le_trans (box_fit hS hp hms.1) (by decide))
      rw [show Txt.join " " (p.1 :: ms.map (mk S)) = boxW S (p, ms) from rfl] at e3
      simp only [List.map_cons, List.map_map] at e3
      refine ⟨_, [some S.d, some (bxD box), some (.obj 0), some (.str p.1), some (eM ms), x3], [some (.lst ((pre ++ [(p, ms)]).map fun l => .str (boxW S l)))], rfl, ?_, _, _, _, rfl, rfl⟩
      simp [b10_2, Es.of, asgG, e1, e2, ZL]
      simp [Function.comp_def] at e3
      simp [e3, getO, setO, hl2])
  refine pure_call (by simp [clL, Stg.cl hS]) (s' := [none]) ?_ (by simp) b s
  have e6 := c6 hS (k := k + 1) (by omega) 0
  rw [run10]
  simp only [Df.go, b10]
  simp [Es.of, asgG, e6, zip_names S box hb.len, h1, frzS, getO, setO, ZL, bwD]

/-! full_box -/
def fullB (S : Stg) : List (List Nat) := List.replicate S.pl.length (List.range S.nm.length)
theorem full_ok {S : Stg} (hS : S.ok) : BoxOk S (fullB S) := ⟨by simp [fullB], fun ms h => by
  have := List.eq_of_mem_replicate h
  subst this
  have a := hS.nl
  exact ⟨by rw [List.length_range]; exact a, fun m hm => List.mem_range.mp hm⟩⟩
theorem rg_nat (n : Nat) : rgD (n : Int) = (List.range n).map eN := by simp [rgD, eN, Function.comp_def]
theorem c11 {S : Stg} (hS : S.ok) {k : Nat} (hk : 1 ≤ k) (b : Nat) (s : Sto) : Cc.run ⟨run PD 200 k, 200, b⟩ true 11 [S.d] s = some (bxD (fullB S), s) := by
  obtain ⟨k, rfl⟩ := Nat.exists_eq_add_of_le' hk
  refine pure_call (by simp [clL, Stg.cl hS]) (s' := []) ?_ (by simp) b s
  have h1 := hS.nl; have h2 := hS.pl; have h3 := hS.p1
  rw [run11]
  simp only [Df.go, b11]
  have e1 : evBin .mul (.tup [eM (List.range S.nm.length)]) (.int S.pl.length) = some (bxD (fullB S)) := by
    simp only [evBin]
    rw [if_pos ⟨by simp, by omega, by omega, by simp⟩]
    simp [bxD, fullB, List.map_replicate]
  have e2 : (.tup ((List.range S.nm.length).map eN) : D) = eM (List.range S.nm.length) := rfl
  have e3 : (S.nm.length : Int) ≤ 1000000 := by omega
  simp [Es.of, evB1, lenD, rg_nat, e1, e2, e3, ZL]

/-! narrowed -/
def leftB (box : List (List Nat)) (p : Nat) (ms : List Nat) (b : Bool) : List Nat := (box.getD p []).filter fun m => decide (m ∈ ms) == b
def narB (box : List (List Nat)) (p : Nat) (ms : List Nat) (b : Bool) : Option (List (List Nat)) := if (leftB box p ms b).isEmpty then none else some (box.set p (leftB box p ms b))
def obD : Option (List (List Nat)) → D
  | none => .non
  | some box => bxD box
@[simp] theorem cl_ob (o : Option (List (List Nat))) : (obD o).cl = true := by cases o <;> simp [obD, D.cl]
theorem nar_ok {S : Stg} {box box' : List (List Nat)} (hb : BoxOk S box) {p : Nat} {ms : List Nat} {b : Bool} (h : narB box p ms b = some box') : BoxOk S box' := by
  unfold narB at h
  split at h
  · cases h
  · cases h
    refine ⟨by rw [List.length_set]; exact hb.len, fun l hl => ?_⟩
    rcases List.mem_or_eq_of_mem_set hl with hl | rfl
    · exact hb.el l hl
    · unfold leftB
      by_cases hp : p < box.length
      · rw [List.getD_eq_getElem?_getD, List.getElem?_eq_getElem hp]
        have := hb.el _ (List.getElem_mem hp)
        exact ⟨Nat.le_trans (List.length_filter_le _ _) this.1, fun m hm => this.2 m (List.mem_filter.mp hm).1⟩
      · rw [List.getD_eq_getElem?_getD, List.getElem?_eq_none (by omega)]
        exact ⟨by simp, fun m hm => by simp at hm⟩
theorem in_M (m : Nat) (ms : List Nat) : inD (eN m) (eM ms) = some (decide (m ∈ ms)) := by
  have h1 : ∀ l : List Nat, (l.map eN).all flatD = true := fun l => by simp [eN, flatD]
  have h2 : ∀ l : List Nat, ((l.map eN).any fun z => eqFD z (eN m)) = decide (m ∈ l) := fun l => by
    induction l with
    | nil => rfl
    | cons x l ih =>
      rw [List.map_cons, List.any_cons, ih]
      simp only [eN, eqFD, List.mem_cons]
      by_cases h : x = m
      · subst h; simp
      · have : ((x : Int) == (m : Int)) = false := by simp; omega
        rw [this]; simp [Ne.symm h]
  simp only [inD, eM, seqD]
  rw [if_pos ⟨rfl, h1 ms⟩, h2]
theorem fm_if (f : Nat → Bool) : ∀ l : List Nat, (l.filterMap fun m => if f m = true then some (eN m) else none) = (l.filter f).map eN
  | [] => rfl
  | x :: l => by
    by_cases h : f x = true
    · rw [List.filterMap_cons_some (b := eN x) (by rw [if_pos h]), List.filter_cons_of_pos h, List.map_cons, fm_if f l]
    · rw [List.filterMap_cons_none (by rw [if_neg h]), List.filter_cons_of_neg h, fm_if f l]
@[simp] theorem tru_M (s : Sto) (ms : List Nat) : truD s (eM ms) = some (!ms.isEmpty) := by simp [eM, truD]
theorem c12 {S : Stg} (hS : S.ok) {k : Nat} (hk : 1 ≤ k) {box : List (List Nat)} (hb : BoxOk S box) {p : Nat} (hp : p < S.pl.length) {ms : List Nat} (y : Bool) (b : Nat) (s : Sto) :
    Cc.run ⟨run PD 200 k, 200, b⟩ true 12 [bxD box, .int p, eM ms, eB y] s = some (obD (narB box p ms y), s) := by
  obtain ⟨k, rfl⟩ := Nat.exists_eq_add_of_le' hk
  refine pure_call (by simp [clL, D.cl]) (s' := []) ?_ (by simp) b s
  have hpb : p < box.length := by rw [hb.len]; exact hp
  have hel := hb.el _ (List.getElem_mem hpb)
  have hbl := hS.pl
  have g0 : box.getD p [] = box[p] := by rw [List.getD_eq_getElem?_getD, List.getElem?_eq_getElem hpb]; rfl
  have e0 : atD [] (bxD box) (.int p) = some (eM box[p]) := by simp [atD, bxD, hpb]
  have e1 := lc_filter (C := ⟨run PD 200 k, 200, 0⟩) (env := [some (bxD box), some (.int p), some (eM ms), some (eB y), none, none]) (g := .name 5) (t := b12_2) (e := b12_1) (own := [5]) (s := []) eN (fun m => if (decide (m ∈ ms) == y) = true then some (eN m) else none) box[p] (by omega) fun m h => by
    cases y <;> cases hd : decide (m ∈ ms) <;> simp [lcF, asgG, wipeD, b12_1, b12_2, evCmp, in_M, hd, evB1, eB, scalEq]
  have e2 : (box[p].filterMap fun m => if (decide (m ∈ ms) == y) = true then some (eN m) else none) = (leftB box p ms y).map eN := by
    rw [fm_if]
    unfold leftB
    rw [g0]
  rw [e2] at e1
  have e3 : slcD (bxD box) none (some p) = some (bxD (box.take p)) := by
    simp only [slcD, bxD, cutD]
    rw [HT.sIx_none, HT.sIx_nat]
    simp
  have e4 : slcD (bxD box) (some ((p : Int) + 1)) none = some (bxD (box.drop (p + 1))) := by
    simp only [slcD, bxD, cutD]
    rw [HT.sIx_none, show (p : Int) + 1 = ((p + 1 : Nat) : Int) by omega, HT.sIx_nat]
    rw [List.length_map, Nat.min_eq_left (by omega), List.take_of_length_le (by simp), List.map_drop]
  have e5 : evBin .add (bxD (box.take p)) (.tup [eM (leftB box p ms y)]) = some (bxD (box.take p ++ [leftB box p ms y])) := by
    have := addT ((box.take p).map eM) [eM (leftB box p ms y)] (by simp; omega)
    simpa [bxD] using this
  have hs : box.set p (leftB box p ms y) = box.take p ++ leftB box p ms y :: box.drop (p + 1) := by rw [List.set_eq_take_append_cons_drop, if_pos hpb]
  have hbx := hb.len
  have e6 : evBin .add (bxD (box.take p ++ [leftB box p ms y])) (bxD (box.drop (p + 1))) = some (bxD (box.set p (leftB box p ms y))) := by
    have := addT ((box.take p ++ [leftB box p ms y]).map eM) ((box.drop (p + 1)).map eM) (by simp only [List.length_map, List.length_append, List.length_take, List.length_drop, List.length_cons, List.length_nil]; omega)
    rw [← List.map_append, List.append_assoc, List.singleton_append, ← hs] at this
    exact this
  have e7 : (D.tup ((leftB box p ms y).map eN)) = eM (leftB box p ms y) := rfl
  rw [run12]
  simp only [Df.go, b12]
  cases h : (leftB box p ms y).isEmpty <;> simp [Es.of, asgG, e0, e1, evB1, listD, e7, h, narB, obD, e3, e4, e5, e6, ZL]

/-! way_box -/
def wayB : Option (List (List Nat)) → Pg → List Bool → Option (List (List Nat))
  | o, _, [] => o
  | _, .tell _, _ :: _ => none
  | o, .look pl ms y n, b :: w => wayB (o.bind fun box => narB box pl ms b) (if b then y else n) w
theorem wayB_snoc : ∀ (o : Option (List (List Nat))) (p : Pg) (u : List Bool) (b : Bool) (pl : Nat) (ms : List Nat) (y n : Pg), p.at u = some (.look pl ms y n) → wayB o p (u ++ [b]) = (wayB o p u).bind fun box => narB box pl ms b
  | o, p, [], b, pl, ms, y, n, h => by cases h; cases b <;> simp [wayB]
  | _, .tell _, _ :: _, _, _, _, _, _, h => by cases h
  | o, .look pl' ms' y' n', c :: u, b, pl, ms, y, n, h => by
    have := wayB_snoc (o.bind fun box => narB box pl' ms' c) (if c then y' else n') u b pl ms y n h
    simp only [wayB, List.cons_append, this]
@[simp] theorem notN_ob (o : Option (List (List Nat))) : evCmp .notN (obD o) .non = some o.isSome := by cases o <;> rfl
@[simp] theorem isN_ob (o : Option (List (List Nat))) : evCmp .isN (obD o) .non = some o.isNone := by cases o <;> rfl
theorem c13 {S : Stg} (hS : S.ok) {k : Nat} (hk : 4 ≤ k) {p q : Pg} (hp : p.ok S) {w : List Bool} (h : p.at w = some q) (b : Nat) (s : Sto) :
    Cc.run ⟨run PD 200 k, 200, b⟩ true 13 [S.d, p.d, eW w] s = some (obD (wayB (some (fullB S)) p w), s) := by
  obtain ⟨k, rfl⟩ := Nat.exists_eq_add_of_le' hk
  obtain ⟨env', s', h1, x, r, h2, rfl, rfl, _⟩ := forE_inv (C := ⟨run PD 200 (k + 3), 200, 0⟩) (g := .name 4) (b := b13_1) (env := [some S.d, some p.d, some (eW w), some (bxD (fullB S)), none]) (s := []) eB
    (fun pre env s => ∃ x r, p.at pre = some r ∧ env = [some S.d, some r.d, some (eW w), some (obD (wayB (some (fullB S)) p pre)), x] ∧ s = [] ∧ ∀ box, wayB (some (fullB S)) p pre = some box → BoxOk S box) w ⟨none, p, rfl, rfl, rfl, fun box e => by cases e; exact full_ok hS⟩ (by
      rintro pre y post _ _ hl ⟨x, r, hr, rfl, rfl, hbx⟩
      subst hl
      obtain ⟨r', h1, h2⟩ := at_split _ _ _ _ h
      rw [hr] at h1
      cases h1
      obtain ⟨pl, ms, yy, nn, rfl, h3⟩ := at_cons h2
      have ho := ok_at _ _ _ hp hr
      simp only [Pg.ok] at ho
      have hsn := wayB_snoc (some (fullB S)) p pre y _ _ _ _ hr
      refine ⟨_, [some S.d, some (if y then yy else nn).d, some (eW (pre ++ y :: post)), some (obD (wayB (some (fullB S)) p (pre ++ [y]))), some (eB y)], [], rfl, ?_, _, _, at_snoc _ _ y _ _ _ _ hr, rfl, rfl, ?_⟩
      · rw [hsn]
        cases hw : wayB (some (fullB S)) p pre with
        | none => simp [b13_1, Es.of, asgG, c2 (k := k + 3) (by omega), obD, evCmp]
        | some box =>
          have e12 := c12 hS (k := k + 3) (by omega) (hbx box hw) ho.1 (ms := ms) y 0
          have : evCmp .notN (bxD box) .non = some true := rfl
          simp [b13_1, Es.of, asgG, c2 (k := k + 3) (by omega), obD, this, e12]
      · intro box hb
        rw [hsn] at hb
        cases hw : wayB (some (fullB S)) p pre with
        | none => rw [hw] at hb; cases hb
        | some box0 => rw [hw] at hb; exact nar_ok (hbx box0 hw) hb)
  refine pure_call (by simp [clL, Stg.cl hS]) (s' := []) ?_ (by simp) b s
  have e3 := c3 (k := k + 3) (by omega) p q w h 0
  have e11 := c11 hS (k := k + 3) (by omega) 0
  rw [run13]
  simp only [Df.go, b13]
  simp [Es.of, asgG, e3, e11, h1]
end K92

/-! K92, mathematics 4: the law's own functions without the lamp. -/
namespace K92
open PySem Fw
/-! _law_same -/
mutual
def dpD : D → Nat
  | .tup xs => dpL xs + 1
  | .lst xs => dpL xs + 1
  | _ => 0
def dpL : List D → Nat
  | [] => 0
  | d :: ds => max (dpD d) (dpL ds)
end
mutual
def sane : D → Bool
  | .tup xs => decide (xs.length ≤ 1000000) && saneL xs
  | .lst xs => decide (xs.length ≤ 1000000) && saneL xs
  | .scr _ => false
  | .obj _ => false
  | .non => true
  | .bl _ => true
  | .int _ => true
  | .str _ => true
def saneL : List D → Bool
  | [] => true
  | d :: ds => sane d && saneL ds
end
theorem dp_mem : ∀ {xs : List D} {x : D}, x ∈ xs → dpD x ≤ dpL xs
  | y :: r, x, h => by
    simp only [dpL]
    rcases List.mem_cons.mp h with rfl | h
    · omega
    · have := dp_mem h; omega
theorem sane_mem : ∀ {xs : List D} {x : D}, saneL xs = true → x ∈ xs → sane x = true
  | y :: r, x, hs, h => by
    simp only [saneL, Bool.and_eq_true] at hs
    rcases List.mem_cons.mp h with rfl | h
    · exact hs.1
    · exact sane_mem hs.2 h
mutual
theorem sane_cl : ∀ d : D, sane d = true → d.cl = true
  | .tup xs, h => by simp only [sane, Bool.and_eq_true] at h; simp only [D.cl]; exact sane_clL xs h.2
  | .lst xs, h => by simp only [sane, Bool.and_eq_true] at h; simp only [D.cl]; exact sane_clL xs h.2
  | .non, _ => rfl
  | .bl _, _ => rfl
  | .int _, _ => rfl
  | .str _, _ => rfl
theorem sane_clL : ∀ l : List D, saneL l = true → clL l = true
  | [], _ => rfl
  | x :: r, h => by
    simp only [saneL, Bool.and_eq_true] at h
    simp only [clL, sane_cl x h.1, sane_clL r h.2, Bool.and_self]
end
theorem fm_none {α β : Type} (l : List α) : l.filterMap (fun _ => (none : Option β)) = [] := by induction l <;> simp_all
theorem len_lit (s : Sto) (xs : List D) : lenD s (.tup xs) = some xs.length ∧ lenD s (.lst xs) = some xs.length := ⟨rfl, rfl⟩
theorem ne_bl (b c : Bool) : evCmp .ne (.bl b) (.bl c) = some (!(b == c)) := rfl
theorem ne_int (b c : Int) : evCmp .ne (.int b) (.int c) = some (!(b == c)) := rfl
theorem c16 : ∀ (k : Nat) (d : D), sane d = true → dpD d < k → ∀ (b : Nat) (s : Sto), Cc.run ⟨run PD 200 k, 200, b⟩ true 16 [d, d] s = some (.bl true, s)
  | 0, d, _, h, _, _ => absurd h (Nat.not_lt_zero _)
  | k + 1, d, hs, hd, b, s => by
    refine pure_call (by simp [clL, sane_cl d hs]) (s' := []) ?_ rfl b s
    have seq : ∀ (xs : List D), (d = .tup xs ∨ d = .lst xs) → xs.length ≤ 1000000 → saneL xs = true → dpL xs < k → srcGo (lcF ⟨run PD 200 k, 200, 0⟩ [some d, some d, none] (.name 2) b16_2 b16_1 [2]) (.vals ((List.range xs.length).map eN)) [] = some ([], []) := by
      intro xs hx hl hsl hdl
      have := lc_filter (C := ⟨run PD 200 k, 200, 0⟩) (env := [some d, some d, none]) (g := .name 2) (t := b16_2) (e := b16_1) (own := [2]) (s := []) eN (fun _ => none) (List.range xs.length) (by rw [List.length_range]; exact hl) fun m hm => by
        have hm := List.mem_range.mp hm
        have e1 := c16 k xs[m] (sane_mem hsl (List.getElem_mem hm)) (Nat.lt_of_le_of_lt (dp_mem (List.getElem_mem hm)) hdl) 0
        have e2 : ∀ s, atD s d (eN m) = some xs[m] := fun s => by rcases hx with rfl | rfl <;> simp [atD, eN, hm]
        simp [lcF, asgG, wipeD, b16_2, Es.of, e2, e1]
      rw [fm_none] at this
      exact this
    rw [run16]
    simp only [Df.go, b16]
    cases d with
    | non => simp [isID, evCmp]
    | bl x => simp [isID, evCmp, scalEq]
    | int x => simp [isID, evCmp, scalEq]
    | str x => simp [isID, evCmp, scalEq]
    | scr _ => simp [sane] at hs
    | obj _ => simp [sane] at hs
    | tup xs =>
      simp only [sane, Bool.and_eq_true, decide_eq_true_eq] at hs
      simp only [dpD] at hd
      have := seq xs (.inl rfl) hs.1 hs.2 (by omega)
      have hh := hs.1
      have h2 : (xs.length : Int) ≤ 1000000 := by omega
      have h3 : -1000000 ≤ (xs.length : Int) := by omega
      simp [isID, ne_bl, ne_int, evB1, lenD, rg_nat, this, ZL, h2, h3]
    | lst xs =>
      simp only [sane, Bool.and_eq_true, decide_eq_true_eq] at hs
      simp only [dpD] at hd
      have := seq xs (.inr rfl) hs.1 hs.2 (by omega)
      have hh := hs.1
      have h2 : (xs.length : Int) ≤ 1000000 := by omega
      have h3 : -1000000 ≤ (xs.length : Int) := by omega
      simp [isID, ne_bl, ne_int, evB1, lenD, rg_nat, this, ZL, h2, h3]
end K92

/-! K92, mathematics 5: the law's leaves and looks, by a pile. -/
namespace K92
open PySem Fw
/-! _law_leaves -/
def eQ (t : List Bool × Pg) : D := .tup [eW t.1, t.2.d]
def pre (w : List Bool) (l : List (List Bool × Str)) : List (List Bool × Str) := l.map fun x => (w ++ x.1, x.2)
def flat (stk : List (List Bool × Pg)) : List (List Bool × Str) := (stk.map fun t => pre t.1 t.2.leaves).flatten
def szs (stk : List (List Bool × Pg)) : Nat := (stk.map fun t => t.2.sz).sum
theorem szs_len : ∀ stk : List (List Bool × Pg), stk.length ≤ szs stk
  | [] => Nat.zero_le _
  | t :: r => by
    have a := szs_len r
    have b := t.2.sz_pos
    simp only [szs, List.map_cons, List.sum_cons, List.length_cons] at a ⊢
    omega
theorem addW (w : List Bool) (b : Bool) (h : w.length ≤ 1000) : evBin .add (eW w) (.tup [.int (if b then 1 else 0)]) = some (eW (w ++ [b])) := by
  unfold eW
  rw [addT _ _ (by simp; omega)]
  simp [eB]
theorem pop_last (d : D) (l : List D) : (l ++ [d])[(l ++ [d]).length - 1]? = some d := by simp
theorem gt_len (n : Nat) : evCmp .gt (.int n) (.int 0) = some (decide (0 < n)) := by simp [evCmp]
theorem pre_pre (u w : List Bool) (l : List (List Bool × Str)) : pre u (pre w l) = pre (u ++ w) l := by simp [pre, Function.comp_def]
theorem c20 {k : Nat} (hk : 1 ≤ k) {p : Pg} (hz : p.sz ≤ 150) (b : Nat) (s : Sto) : Cc.run ⟨run PD 200 k, 200, b⟩ true 20 [p.d] s = some (.lst (p.leaves.map eL), s) := by
  obtain ⟨k, rfl⟩ := Nat.exists_eq_add_of_le' hk
  have hlv := p.leaves_len
  have hdp := p.dep_lt
  obtain ⟨env', s', h1, x, y, rfl, rfl⟩ := whlE_inv (C := ⟨run PD 200 k, 200, 0⟩) (t := b20_1) (b := b20_2) (env := [some p.d, some (.obj 0), some (.obj 1), none, none]) (s := [some (.lst []), some (.lst [eQ ([], p)])])
    (fun m env s => ∃ x y told stk, m = szs stk ∧ env = [some p.d, some (.obj 0), some (.obj 1), x, y] ∧ s = [some (.lst (told.map eL)), some (.lst (stk.reverse.map eQ))] ∧ told ++ flat stk = p.leaves ∧ (∀ t ∈ stk, t.1.length + t.2.dep ≤ p.dep) ∧ szs stk ≤ p.sz ∧ stk.length ≤ szs stk)
    (fun env s => ∃ x y, env = [some p.d, some (.obj 0), some (.obj 1), x, y] ∧ s = [some (.lst (p.leaves.map eL)), some (.lst [])]) p.sz (by show p.sz < 200; omega)
    ⟨none, none, [], [([], p)], by simp [szs], rfl, rfl, by simp [flat, pre], by simp, by simp [szs], by have := p.sz_pos; simp [szs]; omega⟩ (by
      rintro m env s ⟨x, y, told, stk, rfl, rfl, rfl, hf, hd, hsz, hln⟩
      have htl : told.length ≤ p.sz := by
        have := congrArg List.length hf
        simp only [List.length_append] at this
        omega
      cases stk with
      | nil =>
        refine .inl ⟨[some (.lst (told.map eL)), some (.lst [])], by simp [b20_1, evB1, lenD, getO, gt_len], x, y, rfl, ?_⟩
        have : told = p.leaves := by simpa [flat] using hf
        rw [this]
      | cons t r =>
        obtain ⟨w, q⟩ := t
        have hd0 := hd (w, q) (List.mem_cons_self ..)
        simp only at hd0
        refine .inr ⟨[some (.lst (told.map eL)), some (.lst (((w, q) :: r).reverse.map eQ))], ?_⟩
        cases q with
        | tell word =>
          refine ⟨[some p.d, some (.obj 0), some (.obj 1), some (eW w), some (Pg.tell word).d], [some (.lst ((told ++ [(w, word)]).map eL)), some (.lst (r.reverse.map eQ))], szs r, by simp [b20_1, evB1, lenD, getO, gt_len], ?_, by simp [szs, Pg.sz], _, _, told ++ [(w, word)], r, rfl, rfl, rfl, ?_, fun t ht => hd t (List.mem_cons_of_mem _ ht), ?_, ?_⟩
          · have h2 : told.length < 1000000 := by omega
            simp [b20_2, Es.of, Gs.of, asgG, asgGs, getO, setO, eQ, ZL, h2, eL]
          · rw [← hf]; simp [flat, pre, Pg.leaves]
          · simp [szs, Pg.sz] at hsz ⊢; omega
          · exact szs_len _
        | look pl ms yy nn =>
          simp only [Pg.dep] at hd0
          refine ⟨[some p.d, some (.obj 0), some (.obj 1), some (eW w), some (Pg.look pl ms yy nn).d], [some (.lst (told.map eL)), some (.lst (((w ++ [true], yy) :: (w ++ [false], nn) :: r).reverse.map eQ))], szs ((w ++ [true], yy) :: (w ++ [false], nn) :: r), by simp [b20_1, evB1, lenD, getO, gt_len], ?_, by simp [szs, Pg.sz]; omega, _, _, told, (w ++ [true], yy) :: (w ++ [false], nn) :: r, rfl, rfl, rfl, ?_, ?_, ?_, ?_⟩
          · have e1 := addW w true (by omega)
            have e2 := addW w false (by omega)
            simp only [if_true, Bool.false_eq_true, if_false] at e1 e2
            have h3 : r.length ≤ 999998 := by simp [szs, Pg.sz] at hln hsz ⊢; omega
            simp [b20_2, Es.of, Gs.of, asgG, asgGs, getO, setO, eQ, ZL, e1, e2, h3]
          · rw [← hf]; simp [flat, pre, Pg.leaves, Function.comp_def]
          · intro t ht
            simp only [List.mem_cons] at ht
            rcases ht with rfl | rfl | ht
            · simp; omega
            · simp; omega
            · exact hd t (List.mem_cons_of_mem _ ht)
          · simp [szs, Pg.sz] at hsz ⊢; omega
          · exact szs_len _)
  refine pure_call (by simp [clL]) (s' := [none, some (.lst [])]) ?_ (by simp only [D.cl]; exact clL_map cl_L _) b s
  rw [run20]
  simp only [Df.go, b20]
  have e1 : (D.tup [D.tup [], p.d]) = eQ ([], p) := rfl
  simp [Es.of, asgG, e1, h1, frzS, getO, setO, ZL]

/-! _law_looks -/
def flatK (stk : List Pg) : List (Nat × List Nat) := (stk.map Pg.looks).flatten
def szK (stk : List Pg) : Nat := (stk.map Pg.sz).sum
theorem szK_len : ∀ stk : List Pg, stk.length ≤ szK stk
  | [] => Nat.zero_le _
  | t :: r => by
    have a := szK_len r
    have b := t.sz_pos
    simp only [szK, List.map_cons, List.sum_cons, List.length_cons] at a ⊢
    omega
theorem c21 {k : Nat} (hk : 1 ≤ k) {p : Pg} (hz : p.sz ≤ 150) (b : Nat) (s : Sto) : Cc.run ⟨run PD 200 k, 200, b⟩ true 21 [p.d] s = some (.lst (p.looks.map eK), s) := by
  obtain ⟨k, rfl⟩ := Nat.exists_eq_add_of_le' hk
  have hlv := p.looks_len
  obtain ⟨env', s', h1, x, rfl, rfl⟩ := whlE_inv (C := ⟨run PD 200 k, 200, 0⟩) (t := b21_1) (b := b21_2) (env := [some p.d, some (.obj 0), some (.obj 1), none]) (s := [some (.lst []), some (.lst [p.d])])
    (fun m env s => ∃ x told stk, m = szK stk ∧ env = [some p.d, some (.obj 0), some (.obj 1), x] ∧ s = [some (.lst (told.map eK)), some (.lst (stk.reverse.map Pg.d))] ∧ told ++ flatK stk = p.looks ∧ szK stk ≤ p.sz ∧ stk.length ≤ szK stk)
    (fun env s => ∃ x, env = [some p.d, some (.obj 0), some (.obj 1), x] ∧ s = [some (.lst (p.looks.map eK)), some (.lst [])]) p.sz (by show p.sz < 200; omega)
    ⟨none, [], [p], by simp [szK], rfl, rfl, by simp [flatK], by simp [szK], by have := p.sz_pos; simp [szK]; omega⟩ (by
      rintro m env s ⟨x, told, stk, rfl, rfl, rfl, hf, hsz, hln⟩
      have htl : told.length ≤ p.sz := by
        have := congrArg List.length hf
        simp only [List.length_append] at this
        omega
      cases stk with
      | nil =>
        refine .inl ⟨[some (.lst (told.map eK)), some (.lst [])], by simp [b21_1, evB1, lenD, getO, gt_len], x, rfl, ?_⟩
        have : told = p.looks := by simpa [flatK] using hf
        rw [this]
      | cons q r =>
        refine .inr ⟨[some (.lst (told.map eK)), some (.lst ((q :: r).reverse.map Pg.d))], ?_⟩
        cases q with
        | tell word =>
          refine ⟨[some p.d, some (.obj 0), some (.obj 1), some (Pg.tell word).d], [some (.lst (told.map eK)), some (.lst (r.reverse.map Pg.d))], szK r, by simp [b21_1, evB1, lenD, getO, gt_len], ?_, by simp [szK, Pg.sz], _, told, r, rfl, rfl, rfl, ?_, ?_, ?_⟩
          · simp [b21_2, asgG, getO, setO]
          · rw [← hf]; simp [flatK, Pg.looks]
          · simp [szK, Pg.sz] at hsz ⊢; omega
          · exact szK_len _
        | look pl ms yy nn =>
          refine ⟨[some p.d, some (.obj 0), some (.obj 1), some (Pg.look pl ms yy nn).d], [some (.lst ((told ++ [(pl, ms)]).map eK)), some (.lst ((yy :: nn :: r).reverse.map Pg.d))], szK (yy :: nn :: r), by simp [b21_1, evB1, lenD, getO, gt_len], ?_, by simp [szK, Pg.sz]; omega, _, told ++ [(pl, ms)], yy :: nn :: r, rfl, rfl, rfl, ?_, ?_, ?_⟩
          · have h2 : told.length < 1000000 := by omega
            have h3 : r.length ≤ 999998 := by simp [szK, Pg.sz] at hln hsz ⊢; omega
            simp [b21_2, Es.of, asgG, getO, setO, ZL, h2, h3, eK]
          · rw [← hf]; simp [flatK, Pg.looks]
          · simp [szK, Pg.sz] at hsz ⊢; omega
          · exact szK_len _)
  refine pure_call (by simp [clL]) (s' := [none, some (.lst [])]) ?_ (by simp only [D.cl]; exact clL_map cl_K _) b s
  rw [run21]
  simp only [Df.go, b21]
  have e1 : (some (Ob.lst [p.d])) = some (Ob.lst ([p].map Pg.d)) := rfl
  simp [Es.of, asgG, h1, frzS, getO, setO, ZL]

/-! _law_said -/
theorem c22 {S : Stg} (hS : S.ok) {k : Nat} (hk : 1 ≤ k) {p : Nat} (hp : p < S.pl.length) {ms : List Nat} (hl : ms.length ≤ 9) (hm : ∀ m ∈ ms, m < S.nm.length) (y : Bool) (b : Nat) (s : Sto) :
    Cc.run ⟨run PD 200 k, 200, b⟩ true 22 [S.d, .tup [.int p, eM ms], eB y] s = some (.str (lookW S p ms y), s) := by
  obtain ⟨k, rfl⟩ := Nat.exists_eq_add_of_le' hk
  refine pure_call (by simp [clL, Stg.cl hS, D.cl]) (s' := []) ?_ rfl b s
  have e1 := lc_mk (S := S) ⟨run PD 200 k, 200, 0⟩ [some S.d, some (.tup [.int p, eM ms]), some (eB y), none, none] 0 4 5 rfl (by decide) (by decide) rfl ms hl hm b22_1 rfl []
  have e2 := joinF_ok " or " (mk S) ms [] (Nat.le_trans (marks_fit hS hl) (by decide))
  have a := marks_len hS hl; have c := nmAt_len hS p; have d := shows_len y
  have e4 := addS (nmAt S p) (showsW y) (by omega)
  have e5 := addS (nmAt S p ++ showsW y) (marksW S ms) (by rw [Str.length_append]; omega)
  rw [show Txt.join " or " (ms.map (mk S)) = marksW S ms from rfl] at e2
  have e6 : ∀ s, atD s (.tup (S.pl.map eP)) (.int p) = some (eP (S.pl[p])) := fun s => by simp [atD, hp]
  have e7 : ∀ s, atD s (eP (S.pl[p])) (.int 0) = some (.str (nmAt S p)) := fun s => by simp [atD, eP, nmAt, hp]
  have e8 : ∀ s, atD s (.tup [.int p, eM ms]) (.int 0) = some (.int p) ∧ atD s (.tup [.int p, eM ms]) (.int 1) = some (eM ms) := fun s => ⟨rfl, rfl⟩
  have e9 : ∀ s, atD s (.tup [.str " shows no ", .str " shows "]) (eB y) = some (.str (showsW y)) := fun s => by cases y <;> simp [atD, eB, showsW]
  rw [run22]
  simp only [Df.go, b22]
  simp [Es.of, asgG, e1, e2, e6, e7, e8, e9, e4, e5, ZL]
  rfl

/-! _law_boxed -/
theorem zip_range {α β : Type} [Inhabited α] [Inhabited β] (l : List α) (m : List β) (h : l.length = m.length) : l.zip m = (List.range m.length).map fun i => (l.getD i default, m.getD i default) := by
  apply List.ext_getElem?
  intro i
  by_cases hi : i < m.length
  · have hl : i < l.length := by omega
    rw [List.getElem?_map, List.getElem?_range hi, List.zip, List.getElem?_zipWith, List.getElem?_eq_getElem hl, List.getElem?_eq_getElem hi]
    simp [hi, hl]
  · rw [List.getElem?_eq_none (by simp; omega), List.getElem?_eq_none (by simp; omega)]
theorem c25 {S : Stg} (hS : S.ok) {k : Nat} (hk : 1 ≤ k) {box : List (List Nat)} (hb : BoxOk S box) (b : Nat) (s : Sto) : Cc.run ⟨run PD 200 k, 200, b⟩ true 25 [S.d, bxD box] s = some (bwD S box, s) := by
  obtain ⟨k, rfl⟩ := Nat.exists_eq_add_of_le' hk
  refine pure_call (by simp [clL, Stg.cl hS]) (s' := []) ?_ (by simp) b s
  have hl9 := hS.pl
  have hlen := hb.len
  have e0 := lc_map (C := ⟨run PD 200 k, 200, 0⟩) (env := [some S.d, some (bxD box), none, none]) (g := .name 2) (t := .yes) (e := b25_2) (own := [2]) (s := []) eN (fun i => .str (boxW S (S.pl.getD i default, box.getD i default))) (List.range box.length) (by rw [List.length_range]; omega) fun i hi => by
    have hi := List.mem_range.mp hi
    have hp : i < S.pl.length := by omega
    have hms := hb.el _ (List.getElem_mem hi)
    have e1 := lc_mk (S := S) ⟨run PD 200 k, 200, 0⟩ [some S.d, some (bxD box), some (eN i), none] 0 3 4 rfl (by decide) (by decide) rfl box[i] hms.1 hms.2 b25_1 rfl []
    have e2 := addL [.str (S.pl[i]).1] (box[i].map fun m => .str (mk S m)) (by simp; omega)
    have e3 := joinS " " ((S.pl[i]).1 :: box[i].map (mk S)) [] (Nat.le_trans (box_fit hS (hS.pz _ (List.getElem_mem hp)) hms.1) (by decide))
    rw [show Txt.join " " ((S.pl[i]).1 :: box[i].map (mk S)) = boxW S (S.pl[i], box[i]) from rfl] at e3
    simp [Function.comp_def] at e3
    have e4 : ∀ s, atD s (bxD box) (eN i) = some (eM box[i]) := fun s => by simp [atD, bxD, eN, hi]
    have e6 : ∀ s, atD s (.tup (S.pl.map eP)) (eN i) = some (eP (S.pl[i])) := fun s => by simp [atD, eN, hp]
    have e7 : ∀ s, atD s (eP (S.pl[i])) (.int 0) = some (.str (S.pl[i]).1) := fun s => by simp [atD, eP]
    simp [lcF, asgG, wipeD, b25_2, Es.of, e6, e7, e4, e1, e2, e3, ZL, hp, hi]
  have e8 : bwD S box = .lst ((List.range box.length).map fun i => .str (boxW S (S.pl.getD i default, box.getD i default))) := by
    unfold bwD
    rw [zip_range S.pl box hlen.symm, List.map_map]; rfl
  have e9 : (bxD box) = .tup (box.map eM) := rfl
  have h2 : (box.length : Int) ≤ 1000000 := by omega
  have h3 : -1000000 ≤ (box.length : Int) := by omega
  have e10 : lenD [] (bxD box) = some box.length := by simp [bxD, lenD]
  rw [run25, e8]
  simp only [Df.go, b25]
  simp only [e0, evB1, e10, rg_nat, exSs_cons, exS_ret, evE_lc, own1, evI_rng1, evE_b1, evE_var]
  simp [e10, rg_nat, e0, ZL, h2, h3, -List.map_map]
end K92

/-! K92, mathematics 6: the lamp. -/
namespace K92
open PySem Fw
structure Lp where
  g : List Int
  m : Int
  t : Int
  w : List (L2.Key × D)
def lampK (m t : Int) : List (L2.Key × D) := [(.inr "great", .obj 0), (.inr "mixed", .int m), (.inr "turns", .int t), (.inr "wonts", .obj 1)]
def Lp.sto (L : Lp) (rest : Sto) : Sto := some (.lst (L.g.map .int)) :: some (.dK L.w) :: some (.dK (lampK L.m L.t)) :: rest
def plN : List Str := ["places", "marks", "names", "trays", "manner", "tray", "words", "word", "other", "mark", "one", "side", "place", "let", "only", "looks"]
structure Lp.ok (L : Lp) : Prop where
  gl : L.g.length ≤ 1000
  nd : (L.w.map (·.1)).Nodup
  sb : ∀ kv ∈ L.w, kv.1 ∈ plN.map (Sum.inr : Str → L2.Key)
  iv : ∀ kv ∈ L.w, ∃ v : Int, kv.2 = .int v
theorem nodup_len {α : Type} [DecidableEq α] : ∀ (l m : List α), l.Nodup → (∀ x ∈ l, x ∈ m) → l.length ≤ m.length
  | [], m, _, _ => Nat.zero_le _
  | x :: l, m, hn, hs => by
    obtain ⟨h1, h2⟩ := List.nodup_cons.mp hn
    have hx := hs x (List.mem_cons_self ..)
    have := nodup_len l (m.erase x) h2 fun y hy => by
      have hne : y ≠ x := fun e => h1 (e ▸ hy)
      exact (List.mem_erase_of_ne hne).mpr (hs y (List.mem_cons_of_mem _ hy))
    rw [List.length_erase_of_mem hx] at this
    have hp := List.length_pos_of_mem hx
    rw [List.length_cons]; omega
theorem Lp.wl {L : Lp} (h : L.ok) : L.w.length ≤ 16 := by
  have := nodup_len (L.w.map (·.1)) (plN.map (Sum.inr : Str → L2.Key)) h.nd fun x hx => by
    obtain ⟨kv, hk, rfl⟩ := List.mem_map.mp hx
    exact h.sb kv hk
  rw [List.length_map] at this
  exact this
@[simp] theorem lk_great (m t : Int) : lookD (lampK m t) (.inr "great") = some (.obj 0) := rfl
@[simp] theorem lk_mixed (m t : Int) : lookD (lampK m t) (.inr "mixed") = some (.int m) := rfl
@[simp] theorem lk_turns (m t : Int) : lookD (lampK m t) (.inr "turns") = some (.int t) := rfl
@[simp] theorem lk_wonts (m t : Int) : lookD (lampK m t) (.inr "wonts") = some (.obj 1) := rfl
@[simp] theorem pt_mixed (m t x : Int) : putD (lampK m t) (.inr "mixed") (.int x) = lampK x t := rfl
@[simp] theorem pt_turns (m t x : Int) : putD (lampK m t) (.inr "turns") (.int x) = lampK m x := rfl
@[simp] theorem len_lampK (m t : Int) : (lampK m t).length = 4 := rfl
theorem mulI (i j : Int) (h1 : -(2 ^ 64) < j) (h2 : j < 2 ^ 64) : evBin .mul (.int i) (.int j) = some (.int (i * j)) := if_pos (.inr ⟨h1, h2⟩)
theorem divI (i j : Int) (h1 : j ≠ 0) (h2 : j.natAbs < 1073741824) : evBin .fdiv (.int i) (.int j) = some (.int (i.fdiv j)) := if_pos ⟨h1, h2⟩
theorem modI (i j : Int) (h1 : j ≠ 0) : evBin .mod (.int i) (.int j) = some (.int (i.fmod j)) := if_pos h1
theorem look_none {w : List (L2.Key × D)} {k : L2.Key} (h : lookD w k = none) (d : D) : putD w k d = w ++ [(k, d)] ∧ k ∉ w.map (·.1) ∧ lookD (w ++ [(k, d)]) k = some d := by
  simp only [lookD, Option.map_eq_none_iff, List.find?_eq_none, decide_eq_true_eq] at h
  refine ⟨?_, ?_, ?_⟩
  · unfold putD
    rw [if_neg]
    simp only [List.any_eq_true, decide_eq_true_eq]
    rintro ⟨x, hx, e⟩
    exact h x hx e
  · rintro hm
    obtain ⟨x, hx, e⟩ := List.mem_map.mp hm
    exact h x hx e
  · unfold lookD
    rw [List.find?_append, List.find?_eq_none.mpr (by simpa using h)]
    simp
theorem look_some {w : List (L2.Key × D)} {k : L2.Key} {d : D} (h : lookD w k = some d) : ∃ kv ∈ w, kv.2 = d := by
  simp only [lookD] at h
  obtain ⟨kv, h1, h2⟩ := Option.map_eq_some_iff.mp h
  exact ⟨kv, List.mem_of_find?_eq_some h1, h2⟩
theorem fm_nat (x : Int) {n : Nat} (h : 0 < n) : ∃ r : Nat, x.fmod n = r ∧ r < n := by
  have h1 := Int.fmod_nonneg_of_pos x (show (0 : Int) < n by omega)
  have h2 := Int.fmod_lt_of_pos x (show (0 : Int) < n by omega)
  exact ⟨(x.fmod n).toNat, by omega, by omega⟩
theorem getO_app {s t : Sto} {n : Nat} (h : n < s.length) : getO (s ++ t) n = getO s n := by
  unfold getO; rw [List.getElem?_append_left h]
def T15 : Ss := .cons (.asg (.name 4) (.dget (.dget (.var 0) (.str "wonts")) (.var 1))) (.cons (.ife (.val (.cmp .lt (.bin .mod (.b1 .int (.var 4)) (.int 13)) (.int 3))) (.cons (.ret (.idx (.tup (Es.of [(.int 0), (.bin .sub (.var 2) (.int 1)), (.bin .mod (.b1 .int (.bin .fdiv (.var 4) (.int 13))) (.var 2))])) (.bin .mod (.b1 .int (.var 4)) (.int 13)))) (.nil)) (.nil)) (.cons (.ret (.bin .mod (.b1 .int (.bin .fdiv (.dget (.var 0) (.str "mixed")) (.int 13))) (.var 2))) (.nil)))
theorem b15_eq : b15 = .cons (.ife (.val (.cmp .lt (.var 2) (.int 2))) (.cons (.ret (.int 0)) (.nil)) (.nil)) (.cons (.ife (.val (.cmp .gt (.b1 .len (.dget (.var 0) (.str "great"))) (.int 0))) (.cons (.asg (.name 3) (.pop (.dget (.var 0) (.str "great")))) (.cons (.ife (.val (.cmp .ge (.var 3) (.var 2))) (.cons (.expr (.app (.dget (.var 0) (.str "great")) (.bin .fdiv (.var 3) (.var 2)))) (.nil)) (.nil)) (.cons (.ret (.bin .mod (.b1 .int (.var 3)) (.var 2))) (.nil)))) (.nil)) (.cons (.dput (.var 0) (.str "turns") (.bin .add (.dget (.var 0) (.str "turns")) (.int 1))) (.cons (.dput (.var 0) (.str "mixed") (.bin .mod (.b1 .int (.bin .add (.bin .add (.bin .mul (.dget (.var 0) (.str "mixed")) (.int 16807)) (.bin .mul (.dget (.var 0) (.str "turns")) (.int 62003))) (.int 5))) (.int 2147482501))) (.cons (.ife (.val (.dnin (.var 1) (.dget (.var 0) (.str "wonts")))) (.cons (.dput (.dget (.var 0) (.str "wonts")) (.var 1) (.bin .fdiv (.dget (.var 0) (.str "mixed")) (.int 13))) (.cons (.dput (.var 0) (.str "mixed") (.bin .mod (.b1 .int (.bin .add (.bin .mul (.dget (.var 0) (.str "mixed")) (.int 16807)) (.int 62003))) (.int 2147482501))) (.nil))) (.nil)) T15)))) := rfl
theorem tail15 (v m : Int) {many : Nat} (hpos : 0 < many) : ∃ r : Nat, (∀ (C : Cc) (pl : Str) (s : Sto) (x : Option D) (w : List (L2.Key × D)) (t : Int), getO s 2 = some (.dK (lampK m t)) → getO s 1 = some (.dK w) → lookD w (.inr pl) = some (.int v) →
    exSs C T15 [some (.obj 2), some (.str pl), some (.int many), x, none] s = some (.rt (.int r) s)) ∧ r < many := by
  obtain ⟨a, ha, ha2⟩ := fm_nat v (show 0 < 13 by decide)
  obtain ⟨b, hb, hb2⟩ := fm_nat (v.fdiv 13) hpos
  obtain ⟨c, hc, hc2⟩ := fm_nat (m.fdiv 13) hpos
  have e1 := modI v 13 (by decide)
  have e2 := divI v 13 (by decide) (by decide)
  have e3 := modI (v.fdiv 13) many (by omega)
  have e4 := divI m 13 (by decide) (by decide)
  have e5 := modI (m.fdiv 13) many (by omega)
  rw [hb] at e3
  rw [hc] at e5
  have ha' : v.fmod 13 = (a : Int) := ha
  rw [ha'] at e1
  by_cases h3 : a < 3
  · have h3' : (a : Int) < 3 := by omega
    refine ⟨if a = 0 then 0 else if a = 1 then many - 1 else b, fun C pl s x w t g1 g2 g3 => ?_, by split; omega; split <;> omega⟩
    have hmn : ((many - 1 : Nat) : Int) = (many : Int) - 1 := by omega
    have e6 : atD s (.tup [.int 0, .int ((many : Int) - 1), .int b]) (.int a) = some (.int ((if a = 0 then 0 else if a = 1 then many - 1 else b : Nat) : Int)) := by
      rcases (show a = 0 ∨ a = 1 ∨ a = 2 by omega) with rfl | rfl | rfl
      · simp [atD]
      · simp [atD, hmn]
      · simp [atD]
    simp [T15, Es.of, dLook, toKey, g1, g2, g3, asgG, evB1, e1, e2, e3, h3', e6, ZL]
  · have h3' : ¬ (a : Int) < 3 := by omega
    refine ⟨c, fun C pl s x w t g1 g2 g3 => ?_, hc2⟩
    simp [T15, Es.of, dLook, toKey, g1, g2, g3, asgG, evB1, e1, h3', e4, e5, ZL]
theorem c15 {k : Nat} (hk : 1 ≤ k) {L : Lp} (hL : L.ok) (rest : Sto) {pl : Str} (hp : pl ∈ plN) {many : Nat} (hm : many ≤ 1000) :
    ∃ (r : Nat) (L' : Lp), run PD 200 k 15 [.obj 2, .str pl, .int many] (L.sto rest) = some (.int r, L'.sto rest) ∧ L'.ok ∧ r < max many 1 := by
  obtain ⟨k, rfl⟩ := Nat.exists_eq_add_of_le' hk
  have hwl := Lp.wl hL
  by_cases h2 : many < 2
  · refine ⟨0, L, ?_, hL, by omega⟩
    rw [run15]
    have : (many : Int) < 2 := by omega
    simp [Df.go, b15, this]
  have hn2 : ¬ (many : Int) < 2 := by omega
  have hpos : 0 < many := by omega
  rcases List.eq_nil_or_concat L.g with hg | ⟨g', x, hg⟩
  · -- no great ones
    obtain ⟨t1, ht1⟩ : ∃ t1, t1 = L.t + 1 := ⟨_, rfl⟩
    obtain ⟨m1, hm1⟩ : ∃ m1, m1 = (L.m * 16807 + t1 * 62003 + 5).fmod 2147482501 := ⟨_, rfl⟩
    have e1 := modI (L.m * 16807 + t1 * 62003 + 5) 2147482501 (by decide)
    rw [← hm1] at e1
    have q1 := mulI L.m 16807 (by decide) (by decide)
    have q2 := mulI t1 62003 (by decide) (by decide)
    cases hlk : lookD L.w (.inr pl) with
    | some d =>
      obtain ⟨kv, hkv, rfl⟩ := look_some hlk
      obtain ⟨v, hv⟩ := hL.iv kv hkv
      rw [hv] at hlk
      obtain ⟨r, hr, hr2⟩ := tail15 v m1 hpos
      refine ⟨r, { L with m := m1, t := t1 }, ?_, ⟨hL.gl, hL.nd, hL.sb, hL.iv⟩, by omega⟩
      have hr' := fun x => hr ⟨run PD 200 k, 200, (L.sto rest).length⟩ pl (({ L with m := m1, t := t1 } : Lp).sto rest) x L.w t1 (by simp [getO, Lp.sto]) (by simp [getO, Lp.sto]) hlk
      rw [run15]
      simp only [Df.go, b15_eq]
      simp only [Lp.sto, List.length_cons, hg, List.map_nil] at hr'
      simp [Es.of, hn2, Lp.sto, dLook, toKey, getO, setO, asgG, evB1, lenD, hg, ← ht1, q1, q2, e1, hlk, ZL, hr']
    | none =>
      obtain ⟨p1, p2, p3⟩ := look_none hlk (.int (m1.fdiv 13))
      obtain ⟨m2, hm2⟩ : ∃ m2, m2 = (m1 * 16807 + 62003).fmod 2147482501 := ⟨_, rfl⟩
      have e2 := modI (m1 * 16807 + 62003) 2147482501 (by decide)
      rw [← hm2] at e2
      have q3 := mulI m1 16807 (by decide) (by decide)
      have q4 := divI m1 13 (by decide) (by decide)
      obtain ⟨r, hr, hr2⟩ := tail15 (m1.fdiv 13) m2 hpos
      have hwl' : L.w.length < 1000000 := by omega
      refine ⟨r, { L with m := m2, t := t1, w := L.w ++ [(.inr pl, .int (m1.fdiv 13))] }, ?_, ⟨hL.gl, ?_, ?_, ?_⟩, by omega⟩
      · have hr' := fun x => hr ⟨run PD 200 k, 200, (L.sto rest).length⟩ pl (({ L with m := m2, t := t1, w := L.w ++ [(.inr pl, .int (m1.fdiv 13))] } : Lp).sto rest) x _ t1 (by simp [getO, Lp.sto]) (by simp [getO, Lp.sto]) p3
        rw [run15]
        simp only [Df.go, b15_eq]
        simp only [Lp.sto, List.length_cons, hg, List.map_nil] at hr'
        simp [Es.of, hn2, Lp.sto, dLook, toKey, getO, setO, asgG, evB1, lenD, hg, ← ht1, q1, q2, q3, q4, e1, e2, hlk, ZL, p1, hwl', hr']
      · rw [List.map_append, List.map_cons, List.map_nil]
        exact List.nodup_append.mpr ⟨hL.nd, by simp, fun a ha b hb => by
          rw [List.mem_singleton.mp hb]
          intro e
          have e : a = Sum.inr pl := e
          subst e
          exact p2 ha⟩
      · intro kv hkv
        rcases List.mem_append.mp hkv with h | h
        · exact hL.sb kv h
        · rw [List.mem_singleton.mp h]; exact List.mem_map.mpr ⟨pl, hp, rfl⟩
      · intro kv hkv
        rcases List.mem_append.mp hkv with h | h
        · exact hL.iv kv h
        · rw [List.mem_singleton.mp h]; exact ⟨_, rfl⟩
  · -- a great one
    rw [List.concat_eq_append] at hg
    obtain ⟨r, hr, hr2⟩ := fm_nat x hpos
    have e1 := modI x many (by omega)
    rw [hr] at e1
    have e2 := divI x many (by omega) (by omega)
    have hgl := hL.gl
    rw [hg, List.length_append, List.length_singleton] at hgl
    have e3 : (0 : Int) < (g'.length : Int) + 1 := by omega
    have e4 : g'.length < 1000000 := by omega
    by_cases hx : (many : Int) ≤ x
    · refine ⟨r, { L with g := g' ++ [x.fdiv many] }, ?_, ⟨by rw [List.length_append, List.length_singleton]; exact hgl, hL.nd, hL.sb, hL.iv⟩, by omega⟩
      rw [run15]
      simp only [Df.go, b15]
      simp [Es.of, hn2, Lp.sto, dLook, toKey, getO, setO, asgG, evB1, lenD, hg, e1, e2, e3, e4, hx, ZL]
    · refine ⟨r, { L with g := g' }, ?_, ⟨by show g'.length ≤ 1000; omega, hL.nd, hL.sb, hL.iv⟩, by omega⟩
      rw [run15]
      simp only [Df.go, b15]
      simp [Es.of, hn2, Lp.sto, dLook, toKey, getO, setO, asgG, evB1, lenD, hg, e1, e2, e3, e4, hx, ZL]
end K92

/-! K92, mathematics 7: lamp, setting, box. -/
namespace K92
open PySem Fw
@[simp] theorem sto_len (L : Lp) (rest : Sto) : (L.sto rest).length = rest.length + 3 := rfl
@[simp] theorem sto_app (L : Lp) (rest t : Sto) : L.sto rest ++ t = L.sto (rest ++ t) := rfl
@[simp] theorem getO_sto (L : Lp) (rest : Sto) (n : Nat) : getO (L.sto rest) (n + 3) = getO rest n := rfl
@[simp] theorem setO_sto (L : Lp) (rest : Sto) (n : Nat) (o : Option Ob) : setO (L.sto rest) (n + 3) o = L.sto (setO rest n o) := rfl
@[simp] theorem getO_at (rest more : Sto) (o : Option Ob) : getO (rest ++ o :: more) rest.length = o := by
  simp [getO]
@[simp] theorem setO_at (rest more : Sto) (o o' : Option Ob) : setO (rest ++ o :: more) rest.length o' = rest ++ o' :: more := by
  simp [setO]
theorem shlI (i j : Int) (h : 0 ≤ j ∧ j ≤ 1000000 ∧ i.natAbs < 2 ^ 64) : evBin .shl (.int i) (.int j) = some (.int (i * 2 ^ j.toNat)) := if_pos h
theorem powI (i j : Int) (h : 0 ≤ j ∧ j ≤ 1000000 ∧ i.natAbs < 2 ^ 64) : evBin .pow (.int i) (.int j) = some (.int (i ^ j.toNat)) := if_pos h
/-! _law_lamp -/
theorem slc45 (ns : List Int) : slcD (.scr ns) none (some 45) = some (.lst ((cutD ns none (some 45)).map .int)) := rfl
theorem cut45 (ns : List Int) (h : ns.length ≤ 63) : (cutD ns none (some 45)).length ≤ 63 := by
  unfold cutD
  rw [List.length_take, List.length_drop]
  omega
theorem c14 {k : Nat} (hk : 1 ≤ k) (ns : List Int) (hn : ns.length ≤ 63) : ∃ L : Lp, L.ok ∧ run PD 200 k 14 [.scr ns] [] = some (.obj 2, L.sto []) := by
  obtain ⟨k, rfl⟩ := Nat.exists_eq_add_of_le' hk
  obtain ⟨B, hB, hB0⟩ : ∃ B : Int, evBin .shl (.int 1) (.int 2000) = some (.int B) ∧ B ≠ 0 := ⟨1 * 2 ^ (2000 : Int).toNat, shlI _ _ ⟨by decide, by decide, by decide⟩, Int.ne_of_gt (Int.mul_pos (by decide) (Int.pow_pos (by decide)))⟩
  obtain ⟨Pw, hP⟩ : ∃ Pw : Int, evBin .pow (.int 10) (.int 17) = some (.int Pw) := ⟨10 ^ (17 : Int).toNat, powI _ _ ⟨by decide, by decide, by decide⟩⟩
  have hcl := cut45 ns hn
  obtain ⟨env', s', h1, g, m, x3, x4, rfl, rfl, hgl⟩ := forE_inv (C := ⟨run PD 200 k, 200, 0⟩) (g := .name 3) (b := b14_1) (env := [some (.scr ns), some (.obj 0), some (.int 131009), none, none]) (s := [some (.lst [])]) D.int
    (fun pre env s => ∃ g m x3 x4, env = [some (.scr ns), some (.obj 0), some (.int m), x3, x4] ∧ s = [some (.lst (List.map D.int g))] ∧ g.length ≤ pre.length) (cutD ns none (some 45)) ⟨[], _, none, none, rfl, rfl, by simp⟩ (by
      rintro pre y post _ _ hl ⟨g, m, x3, x4, rfl, rfl, hgl⟩
      have hpl := congrArg List.length hl
      simp only [List.length_append, List.length_cons] at hpl
      obtain ⟨sz, hsz⟩ : ∃ sz, sz = (if y < 0 then -y else y).fmod B := ⟨_, rfl⟩
      have e1 := modI (if y < 0 then -y else y) B hB0
      rw [← hsz] at e1
      have e2 := mulI m 16807 (by decide) (by decide)
      have e3 := modI sz 999377 (by decide)
      have e4 : evBin .mul (.int 5) (.int (if y < 0 then 1 else 0)) = some (.int (5 * (if y < 0 then 1 else 0))) := mulI _ _ (by split <;> decide) (by split <;> decide)
      have e5 := fun z => modI z 2147482501 (by decide)
      have h4 : g.length < 1000000 := by omega
      by_cases hbig : Pw ≤ sz
      · refine ⟨_, [some (.scr ns), some (.obj 0), some (.int ((m * 16807 + sz.fmod 999377 + 5 * (if y < 0 then 1 else 0) + 1).fmod 2147482501)), some (.int y), some (.int sz)], [some (.lst ((g ++ [sz]).map D.int))], rfl, ?_, g ++ [sz], _, _, _, rfl, rfl, by simp; omega⟩
        simp [b14_1, asgG, evB1, hB, hP, e1, e2, e3, e4, e5, hbig, getO, setO, h4, ZL]
      · refine ⟨_, [some (.scr ns), some (.obj 0), some (.int ((m * 16807 + sz.fmod 999377 + 5 * (if y < 0 then 1 else 0) + 1).fmod 2147482501)), some (.int y), some (.int sz)], [some (.lst (g.map D.int))], rfl, ?_, g, _, _, _, rfl, rfl, by simp; omega⟩
        simp [b14_1, asgG, evB1, hB, hP, e1, e2, e3, e4, e5, hbig, getO, setO, h4, ZL])
  refine ⟨⟨g, m, 0, []⟩, ⟨by show g.length ≤ 1000; omega, by simp, by simp, by simp⟩, ?_⟩
  rw [run14]
  simp only [Df.go, b14]
  simp [Es.of, slc45, h1, Lp.sto]
  rfl
end K92

/-! K92, mathematics 8: the setting. -/
namespace K92
open PySem Fw
def T17 : Ss := .cons (.asg (.name 4) (.call false 15 (Es.of [(.var 0), (.str "names"), (.int 5)]))) (.cons (.asg (.name 5) (.newL .nil)) (.cons (.for_ (.name 6) (.rng1 (.bin .add (.int 1) (.call false 15 (Es.of [(.var 0), (.str "trays"), (.int 3)])))) b17_2) (.cons (.asg (.name 7) (.slc (.tup (Es.of [(.str "red"), (.str "blue"), (.str "m3"), (.str "a"), (.str "green"), (.str "red"), (.str "blue"), (.str "m3"), (.str "a")])) (.some (.var 4)) (.some (.bin .add (.var 4) (.var 3))))) (.cons (.asg (.name 8) (.tup (Es.of [(.str "x1"), (.str "b"), (.str "w1"), (.str "p4"), (.str "q"), (.str "zz9"), (.str "k7"), (.str "eightlet")]))) (.cons (.asg (.name 9) (.lc (.name 6) (.rng1 (.var 2)) .yes b17_1 [6])) (.cons (.ret (.tup (Es.of [(.var 7), (.b1 .tup (.var 5)), (.b1 .tup (.var 9))]))) (.nil)))))))
theorem b17_eq : b17 = .cons (.asg (.name 2) (.bin .add (.int 1) (.call false 15 (Es.of [(.var 0), (.str "places"), (.var 1)])))) (.cons (.asg (.name 3) (.bin .add (.int 2) (.call false 15 (Es.of [(.var 0), (.str "marks"), (.ife (.val (.cmp .gt (.var 2) (.int 5))) (.int 1) (.ife (.val (.cmp .gt (.var 2) (.int 3))) (.int 2) (.int 4)))])))) T17) := rfl
theorem seq_nx {C : Cc} {a : S} {r : Ss} {env e1 : En} {s s1 : Sto} (h : exS C a env s = some (.nx e1 s1)) : exSs C (.cons a r) env s = exSs C r e1 s1 := by rw [exSs_cons, h]
def N9 : List Str := ["red", "blue", "m3", "a", "green", "red", "blue", "m3", "a"]
def P8 : List Str := ["x1", "b", "w1", "p4", "q", "zz9", "k7", "eightlet"]
theorem cut_nat {α : Type} (l : List α) (a b : Nat) (hb : a ≤ b) (h : b ≤ l.length) : cutD l (some (a : Int)) (some (b : Int)) = (l.drop a).take (b - a) := by
  unfold cutD
  rw [HT.sIx_nat, HT.sIx_nat, Nat.min_eq_left h, Nat.min_eq_left (show a ≤ l.length by omega)]
theorem at_strs (l : List Str) (i : Nat) (h : i < l.length) (s : Sto) : atD s (.tup (l.map .str)) (.int i) = some (.str l[i]) := by
  simp [atD, h]
theorem trays17 {k : Nat} (hk : 1 ≤ k) (b : Nat) (rest : Sto) (many marks turn : D) (n : Nat) (hn : n ≤ 3) (L : Lp) (hL : L.ok) :
    ∃ (L' : Lp) (x : Option D) (tr : List D), forE ⟨run PD 200 k, 200, b⟩ (.name 6) b17_2 ((List.range n).map eN) [some (.obj 2), some (.int 8), some many, some marks, some turn, some (.obj (rest.length + 3)), none, none, none, none] (L.sto (rest ++ [some (.lst [])])) =
      some (.nx [some (.obj 2), some (.int 8), some many, some marks, some turn, some (.obj (rest.length + 3)), x, none, none, none] (L'.sto (rest ++ [some (.lst tr)]))) ∧ L'.ok ∧ clL tr = true ∧ tr.length = n := by
  obtain ⟨env', s', h1, L', x, tr, rfl, rfl, h2, h3, h4⟩ := forE_inv (C := ⟨run PD 200 k, 200, b⟩) (g := .name 6) (b := b17_2) (env := [some (.obj 2), some (.int 8), some many, some marks, some turn, some (.obj (rest.length + 3)), none, none, none, none]) (s := L.sto (rest ++ [some (.lst [])])) eN
    (fun pre env s => ∃ L' x tr, env = [some (.obj 2), some (.int 8), some many, some marks, some turn, some (.obj (rest.length + 3)), x, none, none, none] ∧ s = L'.sto (rest ++ [some (.lst tr)]) ∧ L'.ok ∧ clL tr = true ∧ tr.length = pre.length) (List.range n) ⟨L, none, [], rfl, rfl, hL, rfl, rfl⟩ (by
      rintro pre y post _ _ hl ⟨L', x, tr, rfl, rfl, h2, h3, h4⟩
      have hy : y < 3 := by
        have : y ∈ List.range n := by rw [hl]; simp
        have := List.mem_range.mp this
        omega
      have hpl := congrArg List.length hl
      simp only [List.length_append, List.length_cons, List.length_range] at hpl
      obtain ⟨r, L2, e1, h5, h6⟩ := c15 hk h2 (rest ++ [some (.lst tr)]) (pl := "manner") (by simp [plN]) (many := 5) (by decide)
      have e1 : run PD 200 k 15 [.obj 2, .str "manner", .int 5] (L'.sto (rest ++ [some (.lst tr)])) = _ := e1
      obtain ⟨a, ha⟩ : ∃ a : Str, ∀ s, atD s (.tup [.str "bag", .str "t2", .str "ring1"]) (eN y) = some (.str a) := by
        rcases (show y = 0 ∨ y = 1 ∨ y = 2 by omega) with rfl | rfl | rfl <;> exact ⟨_, fun _ => rfl⟩
      obtain ⟨c, hc⟩ : ∃ a : Str, ∀ s, atD s (.tup [.str "any", .str "ring", .str "turn", .str "fixed", .str "any"]) (.int r) = some (.str a) := by
        rcases (show r = 0 ∨ r = 1 ∨ r = 2 ∨ r = 3 ∨ r = 4 by omega) with rfl | rfl | rfl | rfl | rfl <;> exact ⟨_, fun _ => rfl⟩
      have h7 : tr.length < 1000000 := by omega
      refine ⟨_, [some (.obj 2), some (.int 8), some many, some marks, some turn, some (.obj (rest.length + 3)), some (eN y), none, none, none], L2.sto (rest ++ [some (.lst (tr ++ [.tup [.str a, .str c]]))]), rfl, ?_, L2, _, _, rfl, rfl, h5, by simp [clL_app, h3, clL, D.cl], by simp [h4]⟩
      simp [b17_2, Es.of, e1, ha, hc, ZL, h7])
  exact ⟨L', x, tr, h1, h2, h3, by rw [h4, List.length_range]⟩
theorem places17 {k : Nat} (hk : 1 ≤ k) (b : Nat) (rest : Sto) (x2 x3 x4 x6 x7 : Option D) (tr : List D) (ht : tr.length ≤ 3) (n : Nat) (hn : n ≤ 8) (L : Lp) (hL : L.ok) :
    ∃ (L' : Lp) (ps : List (Str × Nat)), srcGo (lcF ⟨run PD 200 k, 200, b⟩ [some (.obj 2), some (.int 8), x2, x3, x4, some (.obj (rest.length + 3)), x6, x7, some (.tup (P8.map .str)), none] (.name 6) .yes b17_1 [6]) (.vals ((List.range n).map eN)) (L.sto (rest ++ [some (.lst tr)])) =
      some (ps.map eP, L'.sto (rest ++ [some (.lst tr)])) ∧ L'.ok ∧ ps.length = n ∧ ∀ q ∈ ps, q.1.length ≤ 10 := by
  obtain ⟨out, s', h1, L', ps, rfl, h2, rfl, h3, h4⟩ := lc_inv (C := ⟨run PD 200 k, 200, b⟩) (env := [some (.obj 2), some (.int 8), x2, x3, x4, some (.obj (rest.length + 3)), x6, x7, some (.tup (P8.map .str)), none]) (g := .name 6) (t := .yes) (e := b17_1) (own := [6]) (s := L.sto (rest ++ [some (.lst tr)])) eN
    (fun pre acc s => ∃ L' ps, s = L'.sto (rest ++ [some (.lst tr)]) ∧ L'.ok ∧ acc = ps.map eP ∧ ps.length = pre.length ∧ ∀ q ∈ ps, q.1.length ≤ 10) (List.range n) (by rw [List.length_range]; omega) ⟨L, [], rfl, hL, rfl, rfl, by simp⟩ (by
      rintro pre y post acc _ hl ⟨L', ps, rfl, h2, rfl, h3, h4⟩
      have hy : y < 8 := by
        have : y ∈ List.range n := by rw [hl]; simp
        have := List.mem_range.mp this
        omega
      obtain ⟨r, L2, e1, h5, h6⟩ := c15 hk h2 (rest ++ [some (.lst tr)]) (pl := "tray") (by simp [plN]) (many := tr.length) (by omega)
      have hy' : y < P8.length := hy
      have e2 := at_strs P8 y hy'
      have h8 : (P8[y]).length ≤ 10 := by
        have : ∀ x ∈ P8, x.length ≤ 10 := by decide +kernel
        exact this _ (List.getElem_mem hy')
      have e2' : ∀ s, atD s (.tup (P8.map .str)) (eN y) = some (.str P8[y]) := e2
      generalize P8[y] = nm at e2 e2' h8
      refine ⟨some (eP (nm, r)), L2.sto (rest ++ [some (.lst tr)]), ?_, L2, ps ++ [(nm, r)], rfl, h5, by simp, by simp [h3], fun q hq => ?_⟩
      · generalize hP : P8.map D.str = pp at e2' ⊢
        simp [lcF, asgG, wipeD, b17_1, Es.of, e2', evB1, lenD, e1, ZL, eP]
      · rcases List.mem_append.mp hq with h | h
        · exact h4 q h
        · rw [List.mem_singleton.mp h]; exact h8)
  exact ⟨L', ps, h1, h2, by rw [h3, List.length_range], h4⟩
theorem tail17 {k : Nat} (hk : 1 ≤ k) (b : Nat) (rest : Sto) (L : Lp) (hL : L.ok) (many marks : Nat) (h1 : 1 ≤ many) (h2 : many ≤ 8) (h3 : 2 ≤ marks) (h4 : marks ≤ 5) :
    ∃ (S : Stg) (L' : Lp) (more : Sto), exSs ⟨run PD 200 k, 200, b⟩ T17 [some (.obj 2), some (.int 8), some (.int many), some (.int marks), none, none, none, none, none, none] (L.sto rest) = some (.rt S.d (L'.sto (rest ++ more))) ∧ L'.ok ∧ S.ok := by
  obtain ⟨turn, L1, e1, hL1, ht⟩ := c15 hk hL rest (pl := "names") (by simp [plN]) (many := 5) (by decide)
  have e1 : run PD 200 k 15 [.obj 2, .str "names", .int 5] (L.sto rest) = _ := e1
  obtain ⟨r3, L2, e2, hL2, hr3⟩ := c15 hk hL1 (rest ++ [some (.lst [])]) (pl := "trays") (by simp [plN]) (many := 3) (by decide)
  have e2 : run PD 200 k 15 [.obj 2, .str "trays", .int 3] (L1.sto (rest ++ [some (.lst [])])) = _ := e2
  obtain ⟨n3, hn3⟩ : ∃ n3 : Nat, n3 = 1 + r3 := ⟨_, rfl⟩
  obtain ⟨n4, hn4⟩ : ∃ n4 : Nat, n4 = turn + marks := ⟨_, rfl⟩
  obtain ⟨L3, x6, tr, e3, hL3, hcl, htr⟩ := trays17 hk b rest (.int many) (.int marks) (.int turn) n3 (by omega) L2 hL2
  obtain ⟨L4, ps, e4, hL4, hps, hpz⟩ := places17 hk b rest (some (.int many)) (some (.int marks)) (some (.int turn)) x6 (some (.tup (((N9.drop turn).take marks).map .str))) tr (by omega) many h2 L3 hL3
  have g1 : (1 : Int) + (r3 : Int) = (n3 : Int) := by omega
  have g2 : (n3 : Int) ≤ 1000000 := by omega
  have g3 : -1000000 ≤ (n3 : Int) := by omega
  have g4 : (turn : Int) + (marks : Int) = (n4 : Int) := by omega
  have g5 : slcD (.tup (N9.map .str)) (some (turn : Int)) (some (n4 : Int)) = some (.tup (((N9.drop turn).take marks).map .str)) := by
    simp only [slcD]
    rw [cut_nat _ _ _ (by omega) (by simp [N9]; omega), show n4 - turn = marks by omega]
    simp
  have g6 : (many : Int) ≤ 1000000 := by omega
  have g7 : -1000000 ≤ (many : Int) := by omega
  have g8 : (.tup [.str "red", .str "blue", .str "m3", .str "a", .str "green", .str "red", .str "blue", .str "m3", .str "a"] : D) = .tup (N9.map .str) := rfl
  have g9 : (.tup [.str "x1", .str "b", .str "w1", .str "p4", .str "q", .str "zz9", .str "k7", .str "eightlet"] : D) = .tup (P8.map .str) := rfl
  refine ⟨⟨(N9.drop turn).take marks, .tup tr, ps⟩, L4, [some (.lst tr)], ?_, hL4, ⟨?_, ?_, ?_, ?_, ?_, hpz, by simp only [D.cl]; exact hcl⟩⟩
  · generalize hN : N9.map D.str = nn at g5 g8
    generalize hP : P8.map D.str = pp at g9 e4
    generalize hM : ((N9.drop turn).take marks).map D.str = mm at g5 e4
    unfold T17
    rw [seq_nx (e1 := [some (.obj 2), some (.int 8), some (.int many), some (.int marks), some (.int turn), none, none, none, none, none]) (s1 := L1.sto rest) (by simp [Es.of, asgG, e1])]
    rw [seq_nx (e1 := [some (.obj 2), some (.int 8), some (.int many), some (.int marks), some (.int turn), some (.obj (rest.length + 3)), none, none, none, none]) (s1 := L1.sto (rest ++ [some (.lst [])])) (by simp [Es.of, asgG, ZL])]
    rw [seq_nx (e1 := [some (.obj 2), some (.int 8), some (.int many), some (.int marks), some (.int turn), some (.obj (rest.length + 3)), x6, none, none, none]) (s1 := L3.sto (rest ++ [some (.lst tr)])) (by simp [Es.of, e2, g1, g2, g3, rg_nat, e3, ZL])]
    rw [seq_nx (e1 := [some (.obj 2), some (.int 8), some (.int many), some (.int marks), some (.int turn), some (.obj (rest.length + 3)), x6, some (.tup mm), none, none]) (s1 := L3.sto (rest ++ [some (.lst tr)])) (by simp [Es.of, asgG, g8, g4, g5, ZL])]
    rw [seq_nx (e1 := [some (.obj 2), some (.int 8), some (.int many), some (.int marks), some (.int turn), some (.obj (rest.length + 3)), x6, some (.tup mm), some (.tup pp), none]) (s1 := L3.sto (rest ++ [some (.lst tr)])) (by simp [Es.of, asgG, g9, ZL])]
    rw [seq_nx (e1 := [some (.obj 2), some (.int 8), some (.int many), some (.int marks), some (.int turn), some (.obj (rest.length + 3)), x6, some (.tup mm), some (.tup pp), some (.lst (ps.map eP))]) (s1 := L4.sto (rest ++ [some (.lst tr)])) (by simp [asgG, g6, g7, rg_nat, e4, ZL])]
    simp [Es.of, evB1, listD, ZL, Stg.d, ← hM]
  · simp; omega
  · simp [N9]; omega
  · intro x hx
    have : ∀ x ∈ N9, x.length ≤ 10 := by decide +kernel
    exact this x (List.mem_of_mem_drop (List.mem_of_mem_take hx))
  · show ps.length ≤ 9; omega
  · show 1 ≤ ps.length; omega
theorem go_rt {f : Df} {fn : Nat → List D → Sto → Option (D × Sto)} {wf : Nat} {ds : List D} {s s' : Sto} {d : D} (hl : ds.length = f.np) (h : exSs ⟨fn, wf, s.length⟩ f.body (ds.map some ++ List.replicate (f.ns - f.np) none) s = some (.rt d s')) : f.go fn wf ds s = some (d, s') := by
  unfold Df.go
  rw [if_pos hl, h]
theorem c17 {k : Nat} (hk : 2 ≤ k) {L : Lp} (hL : L.ok) (rest : Sto) : ∃ (S : Stg) (L' : Lp) (more : Sto), run PD 200 k 17 [.obj 2, .int 8] (L.sto rest) = some (S.d, L'.sto (rest ++ more)) ∧ L'.ok ∧ S.ok := by
  obtain ⟨k, rfl⟩ := Nat.exists_eq_add_of_le' hk
  obtain ⟨r1, L1, e1, hL1, h1⟩ := c15 (k := k + 1) (by omega) hL rest (pl := "places") (by simp [plN]) (many := 8) (by decide)
  have e1 : run PD 200 (k + 1) 15 [.obj 2, .str "places", .int 8] (L.sto rest) = _ := e1
  obtain ⟨n1, hn1⟩ : ∃ n1 : Nat, n1 = 1 + r1 := ⟨_, rfl⟩
  have g1 : (1 : Int) + (r1 : Int) = (n1 : Int) := by omega
  obtain ⟨M, hM1, hM2, hM⟩ : ∃ M : Nat, 1 ≤ M ∧ M ≤ 4 ∧ ∀ (C : Cc) (s : Sto), evE C [some (.obj 2), some (.int 8), some (.int n1), none, none, none, none, none, none, none] (.ife (.val (.cmp .gt (.var 2) (.int 5))) (.int 1) (.ife (.val (.cmp .gt (.var 2) (.int 3))) (.int 2) (.int 4))) s = some (.int M, s) := by
    by_cases h5 : (5 : Int) < n1
    · exact ⟨1, by decide, by decide, fun C s => by simp [h5]⟩
    · by_cases h3 : (3 : Int) < n1
      · exact ⟨2, by decide, by decide, fun C s => by simp [h5, h3]⟩
      · exact ⟨4, by decide, by decide, fun C s => by simp [h5, h3]⟩
  obtain ⟨r2, L2, e2, hL2, h2⟩ := c15 (k := k + 1) (by omega) hL1 rest (pl := "marks") (by simp [plN]) (many := M) (by omega)
  obtain ⟨n2, hn2⟩ : ∃ n2 : Nat, n2 = 2 + r2 := ⟨_, rfl⟩
  have g2 : (2 : Int) + (r2 : Int) = (n2 : Int) := by omega
  obtain ⟨S, L', more, e3, hL', hS⟩ := tail17 (k := k + 1) (by omega) (L.sto rest).length rest L2 hL2 n1 n2 (by omega) (by omega) (by omega) (by omega)
  refine ⟨S, L', more, ?_, hL', hS⟩
  rw [run17]
  refine go_rt rfl ?_
  show exSs _ b17 [some (.obj 2), some (.int 8), none, none, none, none, none, none, none, none] _ = _
  rw [b17_eq]
  rw [seq_nx (e1 := [some (.obj 2), some (.int 8), some (.int n1), none, none, none, none, none, none, none]) (s1 := L1.sto rest) (by simp [Es.of, asgG, e1, g1])]
  rw [seq_nx (e1 := [some (.obj 2), some (.int 8), some (.int n1), some (.int n2), none, none, none, none, none, none]) (s1 := L2.sto rest) (by
    simp only [exS_asg, evE_bin, evE_int, Option.bind_some, evE_call, Es.of, evEs_cons, evEs_nil, evE_var, evE_str, hM]
    simp [e2, g2, asgG])]
  exact e3
end K92

/-! K92, mathematics 9: the program. -/
namespace K92
open PySem Fw
theorem lcO_map {α : Type} (en : α → D) (h : α → D) {f : D → Sto → Option (Option D × Sto)} {n : Nat} {s : Sto} (l : List α) (hg : getO s n = some (.lst (l.map en))) (hf : ∀ x ∈ l, f (en x) s = some (some (h x), s)) :
    ∀ m i : Nat, m + i = l.length → lcO n f m i s = some ((l.drop i).map h, s)
  | 0, i, hm => by
    simp only [lcO, hg]
    rw [if_pos (by rw [List.length_map]; omega), List.drop_of_length_le (by omega)]; rfl
  | m + 1, i, hm => by
    have hi : i < l.length := by omega
    have e : (l.map en)[i]? = some (en l[i]) := by rw [List.getElem?_map, List.getElem?_eq_getElem hi]; rfl
    simp only [lcO, hg, e, hf _ (List.getElem_mem hi), Option.bind_some, lcO_map en h l hg hf m (i + 1) (by omega)]
    rw [List.drop_eq_getElem_cons hi]; rfl
theorem srcO_map {α : Type} (en : α → D) (h : α → D) {f : D → Sto → Option (Option D × Sto)} {n : Nat} {s : Sto} (l : List α) (hl : l.length ≤ 1000000) (hg : getO s n = some (.lst (l.map en))) (hf : ∀ x ∈ l, f (en x) s = some (some (h x), s)) :
    srcGo f (.objl n l.length) s = some (l.map h, s) := by
  simp only [srcGo]
  rw [if_pos hl, lcO_map en h l hg hf l.length 0 rfl]; rfl
theorem sum_ints {α : Type} (h : α → Int) : ∀ l : List α, ∃ z, sumD (l.map fun x => .int (h x)) = some z
  | [] => ⟨0, rfl⟩
  | x :: l => by
    obtain ⟨z, hz⟩ := sum_ints h l
    exact ⟨h x + z, by simp only [List.map_cons, sumD, hz, Option.map_some]⟩
def eR (p : Pg) : D := .tup [.int p.dep, p.d]
@[simp] theorem at_R0 (s : Sto) (p : Pg) : atD s (eR p) (.int 0) = some (.int p.dep) := rfl
@[simp] theorem at_R1 (s : Sto) (p : Pg) : atD s (eR p) (.int 1) = some p.d := rfl
theorem keys_R : ∀ ps : List Pg, keysOf (ps.map eR) = some (ps.map fun p => ((p.dep : Int), eR p))
  | [] => rfl
  | p :: r => by simp only [List.map_cons, keysOf, eR]; rw [show (D.tup [.int p.dep, p.d]) = eR p from rfl]; have := keys_R r; rw [this]; rfl
theorem sort_R (ps : List Pg) : ∃ ps' : List Pg, ps'.Perm ps ∧ (sortK (ps.map fun p => ((p.dep : Int), eR p))).map (·.2) = ps'.map eR := by
  refine ⟨ps.mergeSort fun p q => decide ((p.dep : Int) ≤ q.dep), List.mergeSort_perm _ _, ?_⟩
  unfold sortK
  rw [← List.map_mergeSort (r := fun p q : Pg => decide ((p.dep : Int) ≤ q.dep)) (fun _ _ _ _ => rfl), List.map_map]; rfl
theorem dep_sz : ∀ p : Pg, 2 * p.dep + 1 ≤ p.sz
  | .tell _ => by simp [Pg.dep, Pg.sz]
  | .look _ _ y n => by
    have a := dep_sz y; have b := dep_sz n; have c := y.sz_pos; have d := n.sz_pos
    simp only [Pg.dep, Pg.sz]; omega
/-- the marks that are asked for -/
theorem marks18 {k : Nat} (hk : 1 ≤ k) (b : Nat) (rest : Sto) (env : En) (he : env.length = 15) (h0 : env[0]? = some (some (.obj 2))) (n : Nat) (hn : n ≤ 9) (L : Lp) (hL : L.ok) :
    ∃ (L' : Lp) (ms : List Nat), srcGo (lcF ⟨run PD 200 k, 200, b⟩ env (.name 14) b18_2 b18_1 [14]) (.vals ((List.range n).map eN)) (L.sto rest) = some (ms.map eN, L'.sto rest) ∧ L'.ok ∧ ms.length ≤ n ∧ ∀ m ∈ ms, m < n := by
  obtain ⟨out, s', h1, L', ms, rfl, h2, rfl, h3, h4⟩ := lc_inv (C := ⟨run PD 200 k, 200, b⟩) (env := env) (g := .name 14) (t := b18_2) (e := b18_1) (own := [14]) (s := L.sto rest) eN
    (fun pre acc s => ∃ L' ms, s = L'.sto rest ∧ L'.ok ∧ acc = List.map eN ms ∧ ms.length ≤ pre.length ∧ ∀ m ∈ ms, m < n) (List.range n) (by rw [List.length_range]; omega) ⟨L, [], rfl, hL, rfl, by simp, by simp⟩ (by
      rintro pre y post acc _ hl ⟨L', ms, rfl, h2, rfl, h3, h4⟩
      have hy : y < n := by
        have : y ∈ List.range n := by rw [hl]; simp
        exact List.mem_range.mp this
      obtain ⟨r, L2, e1, h5, h6⟩ := c15 hk h2 rest (pl := "mark") (by simp [plN]) (many := 2) (by decide)
      have e1 : run PD 200 k 15 [.obj 2, .str "mark", .int 2] (L'.sto rest) = _ := e1
      have g1 : ((wipeD env [14]).set 14 (some (eN y)))[0]? = some (some (.obj 2)) := by
        simp only [wipeD]
        rw [List.getElem?_set_ne (by decide), List.getElem?_set_ne (by decide)]; exact h0
      have g2 : ((wipeD env [14]).set 14 (some (eN y)))[14]? = some (some (eN y)) := by
        simp only [wipeD]
        rw [List.getElem?_set_self (by simp; omega)]
      by_cases hr : r = 0
      · subst hr
        refine ⟨some (eN y), L2.sto rest, ?_, L2, ms ++ [y], rfl, h5, by simp, by simp; omega, fun m hm => ?_⟩
        · simp [lcF, asgG, g1, g2, b18_1, b18_2, Es.of, e1]
        · rcases List.mem_append.mp hm with h | h
          · exact h4 m h
          · rw [List.mem_singleton.mp h]; exact hy
      · have hr' : ((r : Int) == 0) = false := by simp; omega
        refine ⟨none, L2.sto rest, ?_, L2, ms, rfl, h5, rfl, by simp; omega, h4⟩
        simp [lcF, asgG, g1, g2, b18_1, b18_2, Es.of, e1]
        rw [hr'])
  exact ⟨L', ms, h1, h2, by rw [List.length_range] at h3; exact h3, h4⟩
theorem tells18 {k : Nat} (hk : 1 ≤ k) (b : Nat) (rest : Sto) (x1 x2 x3 x4 : Option D) (n : Nat) (L : Lp) (hL : L.ok) (hn : n ≤ 17) :
    ∃ (L' : Lp) (x : Option D) (ws : List Str), forE ⟨run PD 200 k, 200, b⟩ (.name 6) b18_6 ((List.range n).map eN) [some (.obj 2), x1, x2, x3, x4, some (.obj (rest.length + 3)), none, none, none, none, none, none, none, none, none] (L.sto (rest ++ [some (.lst [])])) =
      some (.nx [some (.obj 2), x1, x2, x3, x4, some (.obj (rest.length + 3)), x, none, none, none, none, none, none, none, none] (L'.sto (rest ++ [some (.lst (ws.map fun w => eR (.tell w)))]))) ∧ L'.ok ∧ ws.length = n ∧ ∀ w ∈ ws, w.length ≤ 10 := by
  obtain ⟨env', s', h1, L', x, ws, rfl, rfl, h2, h3, h4⟩ := forE_inv (C := ⟨run PD 200 k, 200, b⟩) (g := .name 6) (b := b18_6) (env := [some (.obj 2), x1, x2, x3, x4, some (.obj (rest.length + 3)), none, none, none, none, none, none, none, none, none]) (s := L.sto (rest ++ [some (.lst [])])) eN
    (fun pre env s => ∃ L' x ws, env = [some (.obj 2), x1, x2, x3, x4, some (.obj (rest.length + 3)), x, none, none, none, none, none, none, none, none] ∧ s = L'.sto (rest ++ [some (.lst (List.map (fun w => eR (.tell w)) ws))]) ∧ L'.ok ∧ ws.length = pre.length ∧ ∀ w ∈ ws, w.length ≤ 10) (List.range n) ⟨L, none, [], rfl, rfl, hL, rfl, by simp⟩ (by
      rintro pre y post _ _ hl ⟨L', x, ws, rfl, rfl, h2, h3, h4⟩
      have hpl := congrArg List.length hl
      simp only [List.length_append, List.length_cons, List.length_range] at hpl
      obtain ⟨r, L1, e1, h5, h6⟩ := c15 hk h2 (rest ++ [some (.lst (ws.map fun w => eR (.tell w)))]) (pl := "words") (by simp [plN]) (many := 4) (by decide)
      have e1 : run PD 200 k 15 [.obj 2, .str "words", .int 4] (L'.sto (rest ++ [some (.lst (ws.map fun w => eR (.tell w)))])) = _ := e1
      obtain ⟨n2, hn2⟩ : ∃ n2 : Nat, n2 = 2 + r := ⟨_, rfl⟩
      have g2 : (2 : Int) + (r : Int) = (n2 : Int) := by omega
      obtain ⟨r2, L2, e2, h7, h8⟩ := c15 hk h5 (rest ++ [some (.lst (ws.map fun w => eR (.tell w)))]) (pl := "word") (by simp [plN]) (many := n2) (by omega)
      obtain ⟨c, hc0, hc⟩ : ∃ a : Str, a.length ≤ 10 ∧ ∀ s, atD s (.tup [.str "two", .str "few", .str "no", .str "w0", .str "longword"]) (.int r2) = some (.str a) := by
        rcases (show r2 = 0 ∨ r2 = 1 ∨ r2 = 2 ∨ r2 = 3 ∨ r2 = 4 by omega) with rfl | rfl | rfl | rfl | rfl <;> exact ⟨_, (by decide +kernel), fun _ => rfl⟩
      have h9 : ws.length < 1000000 := by omega
      refine ⟨_, [some (.obj 2), x1, x2, x3, x4, some (.obj (rest.length + 3)), some (eN y), none, none, none, none, none, none, none, none], L2.sto (rest ++ [some (.lst ((ws ++ [c]).map fun w => eR (.tell w)))]), rfl, ?_, L2, _, _, rfl, rfl, h7, by simp [h3], fun w hw => ?_⟩
      · have g3 : (.tup [.int 0, .tup [.str "tell", .str c]] : D) = eR (.tell c) := rfl
        simp [b18_6, Es.of, e1, g2, e2, hc, ZL, h9, g3]

      · rcases List.mem_append.mp hw with h | h
        · exact h4 w h
        · rw [List.mem_singleton.mp h]; exact hc0)
  exact ⟨L', x, ws, h1, h2, by rw [h3, List.length_range], h4⟩
end K92

/-! K92, mathematics 10: the program's loop. -/
namespace K92
open PySem Fw
def two (n : Int) : Int := 1 * 2 ^ n.toNat
theorem shl1 (j : Int) (h0 : 0 ≤ j) (h1 : j ≤ 1000000) : evBin .shl (.int 1) (.int j) = some (.int (two j)) := shlI 1 j ⟨h0, h1, by decide⟩
def sumZ (ps : List Pg) : Nat := (ps.map Pg.sz).sum
theorem sumZ_perm {a b : List Pg} (h : a.Perm b) : sumZ a = sumZ b := (h.map _).sum_nat
theorem sumZ_erase (r : List Pg) (j : Nat) (h : j < r.length) : sumZ r = r[j].sz + sumZ (r.eraseIdx j) := by
  induction r generalizing j with
  | nil => simp at h
  | cons x r ih =>
    cases j with
    | zero => simp [sumZ]
    | succ j =>
      have := ih j (by simpa using h)
      simp only [sumZ, List.map_cons, List.sum_cons, List.eraseIdx_cons_succ, List.getElem_cons_succ] at this ⊢
      omega
theorem erase_map {α β : Type} (f : α → β) : ∀ (l : List α) (j : Nat), (l.map f).eraseIdx j = (l.eraseIdx j).map f
  | [], _ => rfl
  | _ :: _, 0 => rfl
  | x :: l, j + 1 => by simp only [List.map_cons, List.eraseIdx_cons_succ, erase_map f l j]
theorem turn18 {k : Nat} (hk : 1 ≤ k) (b : Nat) {S : Stg} (hS : S.ok) (G : Sto) (lk : D) (ps : List Pg) (h2 : 2 ≤ ps.length) (h17 : ps.length ≤ 17) (hp : ∀ p ∈ ps, p.ok S) (hz : sumZ ps ≤ 40) (L : Lp) (hL : L.ok) (o : Nat) (ho : getO (L.sto G) o = some (.lst (ps.map eR)))
    (x6 x7 x8 x9 x10 x11 x12 x13 x14 : Option D) :
    ∃ (L' : Lp) (y6 y7 y8 y9 y10 y11 y12 : Option D) (ps2 : List Pg), exSs ⟨run PD 200 k, 200, b⟩ b18_5 [some (.obj 2), some S.d, some lk, some (.int S.pl.length), some (.int S.nm.length), some (.obj o), x6, x7, x8, x9, x10, x11, x12, x13, x14] (L.sto G) =
      some (.nx [some (.obj 2), some S.d, some lk, some (.int S.pl.length), some (.int S.nm.length), some (.obj (G.length + 3)), y6, y7, y8, y9, y10, y11, y12, x13, x14] (L'.sto (G ++ [some (.lst (ps2.map eR))]))) ∧ L'.ok ∧ ps2.length + 1 = ps.length ∧ (∀ p ∈ ps2, p.ok S) ∧ sumZ ps2 = sumZ ps + 1 := by
  obtain ⟨ps', hperm, hsort⟩ := sort_R ps
  have hl' := hperm.length_eq
  obtain ⟨one, r, rfl⟩ : ∃ one r, ps' = one :: r := by
    cases ps' with
    | nil => rw [← hl'] at h2; simp at h2
    | cons x r => exact ⟨x, r, rfl⟩
  rw [List.length_cons] at hl'
  have hok : ∀ p, p = one ∨ p ∈ r → p.ok S := fun p h => hp p (hperm.mem_iff.mp (List.mem_cons.mpr h))
  have hzs : sumZ ps = one.sz + sumZ r := by rw [← sumZ_perm hperm]; simp [sumZ]
  have hnl := hS.nl; have hn1 := hS.n1; have hpl := hS.pl; have hp1 := hS.p1
  -- other
  obtain ⟨a, L1, e1, hL1, ha⟩ := c15 hk hL (G ++ [some (.lst (r.map eR))]) (pl := "other") (by simp [plN]) (many := r.length) (by omega)
  have ha' : a < r.length := by omega
  -- deep
  have hdep : ∀ p, p = one ∨ p ∈ r → p.dep ≤ 1000 := fun p h => by
    have h3 := dep_sz p
    rcases h with rfl | h
    · omega
    · obtain ⟨j, hj, rfl⟩ := List.mem_iff_getElem.mp h
      have := sumZ_erase r j hj
      omega
  obtain ⟨z, hz1⟩ := sum_ints (fun p : Pg => two (p.dep : Int)) r
  have hd1 := hdep one (.inl rfl)
  have hd2 := hdep r[a] (.inr (List.getElem_mem ha'))
  obtain ⟨mx, hmx0, hmx1, hmx2⟩ : ∃ mx : Int, (if one.dep < r[a].dep then (r[a].dep : Int) else (one.dep : Int)) = mx ∧ 0 ≤ mx ∧ mx ≤ 1000 := ⟨_, rfl, by split <;> omega, by split <;> omega⟩
  have q1 := shl1 (1 + mx) (by omega) (by omega)
  have q2 := shl1 (r[a].dep : Int) (by omega) (by omega)
  have q3 : ∀ (env : En), env.length = 15 → srcGo (lcF ⟨run PD 200 k, 200, b⟩ env (.name 13) .yes b18_3 [13]) (.objl (G.length + 3) r.length) (L1.sto (G ++ [some (.lst (r.map eR))])) = some (r.map fun p => .int (two (p.dep : Int)), L1.sto (G ++ [some (.lst (r.map eR))])) := fun env he => by
    refine srcO_map eR (fun p => .int (two (p.dep : Int))) r (by omega) (by simp) fun p h => ?_
    have h5 := hdep p (.inr h)
    have q := shl1 (p.dep : Int) (by omega) (by omega)
    have g2 : ((wipeD env [13]).set 13 (some (eR p)))[13]? = some (some (eR p)) := by
      simp only [wipeD]
      rw [List.getElem?_set_self (by simp; omega)]
    simp [lcF, asgG, b18_3, g2, q]
  obtain ⟨dd, hdd⟩ : ∃ dd : Int, dd = two (1 + mx) + z - two (r[a].dep : Int) := ⟨_, rfl⟩
  -- the other one
  obtain ⟨j, hj, hje⟩ : ∃ j : Nat, j < r.length ∧ (if dd ≤ 256 then (a : Int) else 0) = (j : Int) := by
    by_cases h : dd ≤ 256
    · exact ⟨a, ha', if_pos h⟩
    · exact ⟨0, by omega, if_neg h⟩
  have hj63 : (j : Int) < 9223372036854775808 := by omega
  -- some marks
  obtain ⟨L2, ms, e3, hL2, hm1, hm2⟩ := marks18 hk b (G ++ [some (.lst ((r.eraseIdx j).map eR))]) [some (.obj 2), some S.d, some lk, some (.int S.pl.length), some (.int S.nm.length), some (.obj (G.length + 3)), some (.int a), some (eR one), some (.int dd), some (eR r[j]), x10, x11, x12, x13, x14] rfl rfl S.nm.length hnl L1 hL1
  obtain ⟨L3, ms2, hL3, hms0, hms1, hms2, e4⟩ : ∃ (L3 : Lp) (ms2 : List Nat), L3.ok ∧ ms2 ≠ [] ∧ ms2.length ≤ 9 ∧ (∀ m ∈ ms2, m < S.nm.length) ∧
      exS ⟨run PD 200 k, 200, b⟩ (.asg (.name 10) (.ife (.val (.chn .lt .lt (.int 0) (.b1 .len (.var 10)) (.var 4))) (.var 10) (.tup (Es.of [(.call false 15 (Es.of [(.var 0), (.str "one"), (.var 4)]))])))) [some (.obj 2), some S.d, some lk, some (.int S.pl.length), some (.int S.nm.length), some (.obj (G.length + 3)), some (.int a), some (eR one), some (.int dd), some (eR r[j]), some (eM ms), x11, x12, x13, x14] (L2.sto (G ++ [some (.lst ((r.eraseIdx j).map eR))])) =
        some (.nx [some (.obj 2), some S.d, some lk, some (.int S.pl.length), some (.int S.nm.length), some (.obj (G.length + 3)), some (.int a), some (eR one), some (.int dd), some (eR r[j]), some (eM ms2), x11, x12, x13, x14] (L3.sto (G ++ [some (.lst ((r.eraseIdx j).map eR))]))) := by
    have hle : ∀ s, lenD s (eM ms) = some ms.length := fun s => by simp [eM, lenD]
    by_cases h0 : 0 < ms.length
    · by_cases h1 : ms.length < S.nm.length
      · refine ⟨L2, ms, hL2, by intro e; rw [e] at h0; simp at h0, by omega, hm2, ?_⟩
        have h0' : (0 : Int) < (ms.length : Int) := by omega
        have h1' : (ms.length : Int) < (S.nm.length : Int) := by omega
        simp [evB1, hle, h0, h1', asgG]
      · obtain ⟨c, L3, e5, hL3, hc⟩ := c15 hk hL2 (G ++ [some (.lst ((r.eraseIdx j).map eR))]) (pl := "one") (by simp [plN]) (many := S.nm.length) (by omega)
        refine ⟨L3, [c], hL3, by simp, by simp, by simp; omega, ?_⟩
        have h0' : (0 : Int) < (ms.length : Int) := by omega
        have h1' : ¬ (ms.length : Int) < (S.nm.length : Int) := by omega
        simp [evB1, hle, h0, h1', asgG, Es.of, e5, show (.tup [.int (c : Int)] : D) = eM [c] from rfl, ZL]
    · obtain ⟨c, L3, e5, hL3, hc⟩ := c15 hk hL2 (G ++ [some (.lst ((r.eraseIdx j).map eR))]) (pl := "one") (by simp [plN]) (many := S.nm.length) (by omega)
      refine ⟨L3, [c], hL3, by simp, by simp, by simp; omega, ?_⟩
      have h0' : ¬ (0 : Int) < (ms.length : Int) := by omega
      simp [evB1, hle, h0, asgG, Es.of, e5, show (.tup [.int (c : Int)] : D) = eM [c] from rfl, ZL]
  -- which side
  obtain ⟨sd, L4, e6, hL4, _⟩ := c15 hk hL3 (G ++ [some (.lst ((r.eraseIdx j).map eR))]) (pl := "side") (by simp [plN]) (many := 2) (by decide)
  have e6 : run PD 200 k 15 [.obj 2, .str "side", .int 2] (L3.sto (G ++ [some (.lst ((r.eraseIdx j).map eR))])) = _ := e6
  obtain ⟨y, n, hyn, e7⟩ : ∃ y n : Pg, ((y = one ∧ n = r[j]) ∨ (y = r[j] ∧ n = one)) ∧ exS ⟨run PD 200 k, 200, b⟩ (.asg (.tup (Gs.of [(.name 11), (.name 12)])) (.ife (.val (.cmp .eq (.call false 15 (Es.of [(.var 0), (.str "side"), (.int 2)])) (.int 0))) (.tup (Es.of [(.var 7), (.var 9)])) (.tup (Es.of [(.var 9), (.var 7)])))) [some (.obj 2), some S.d, some lk, some (.int S.pl.length), some (.int S.nm.length), some (.obj (G.length + 3)), some (.int a), some (eR one), some (.int dd), some (eR r[j]), some (eM ms2), x11, x12, x13, x14] (L3.sto (G ++ [some (.lst ((r.eraseIdx j).map eR))])) =
        some (.nx [some (.obj 2), some S.d, some lk, some (.int S.pl.length), some (.int S.nm.length), some (.obj (G.length + 3)), some (.int a), some (eR one), some (.int dd), some (eR r[j]), some (eM ms2), some (eR y), some (eR n), x13, x14] (L4.sto (G ++ [some (.lst ((r.eraseIdx j).map eR))]))) := by
    by_cases h : sd = 0
    · subst h
      refine ⟨one, r[j], .inl ⟨rfl, rfl⟩, ?_⟩
      simp [Es.of, Gs.of, e6, asgG, asgGs, ZL]
    · refine ⟨r[j], one, .inr ⟨rfl, rfl⟩, ?_⟩
      have h' : ((sd : Int) == 0) = false := by simp; omega
      simp [Es.of, Gs.of, e6, asgG, asgGs, ZL]
      rw [h']
      simp [asgG, asgGs, ZL]
  obtain ⟨pl, L5, e8, hL5, hpl5⟩ := c15 hk hL4 (G ++ [some (.lst ((r.eraseIdx j).map eR))]) (pl := "place") (by simp [plN]) (many := S.pl.length) (by omega)
  have hyok : y.ok S ∧ n.ok S := by
    have u1 := hok one (.inl rfl); have u2 := hok r[j] (.inr (List.getElem_mem hj))
    rcases hyn with ⟨rfl, rfl⟩ | ⟨rfl, rfl⟩
    · exact ⟨u1, u2⟩
    · exact ⟨u2, u1⟩
  have hdj := hdep r[j] (.inr (List.getElem_mem hj))
  have hR : (.tup [.int (1 + (if one.dep < r[j].dep then (r[j].dep : Int) else (one.dep : Int))), .tup [.str "look", .int pl, eM ms2, y.d, n.d]] : D) = eR (.look pl ms2 y n) := by
    have : 1 + (if one.dep < r[j].dep then (r[j].dep : Int) else (one.dep : Int)) = ((Pg.look pl ms2 y n).dep : Int) := by
      simp only [Pg.dep]
      rcases hyn with ⟨rfl, rfl⟩ | ⟨rfl, rfl⟩ <;> split <;> omega
    rw [this]; rfl
  have hel : (r.eraseIdx j).length < 1000000 := by rw [List.length_eraseIdx_of_lt hj]; omega
  have hsz := sumZ_erase r j hj
  refine ⟨L5, some (.int a), some (eR one), some (.int dd), some (eR r[j]), some (eM ms2), some (eR y), some (eR n), r.eraseIdx j ++ [.look pl ms2 y n], ?_, hL5, ?_, ?_, ?_⟩
  · unfold b18_5
    rw [seq_nx (e1 := [some (.obj 2), some S.d, some lk, some (.int S.pl.length), some (.int S.nm.length), some (.obj (G.length + 3)), x6, x7, x8, x9, x10, x11, x12, x13, x14]) (s1 := L.sto (G ++ [some (.lst ((one :: r).map eR))])) (by simp only [exS_asg, evE_newSort, evE_var]; simp [ho, keys_R, asgG, h17, show ps.length ≤ 60 by omega, hsort])]
    rw [seq_nx (e1 := [some (.obj 2), some S.d, some lk, some (.int S.pl.length), some (.int S.nm.length), some (.obj (G.length + 3)), x6, some (eR one), x8, x9, x10, x11, x12, x13, x14]) (s1 := L.sto (G ++ [some (.lst (r.map eR))])) (by simp [asgG])]
    rw [seq_nx (e1 := [some (.obj 2), some S.d, some lk, some (.int S.pl.length), some (.int S.nm.length), some (.obj (G.length + 3)), some (.int a), some (eR one), x8, x9, x10, x11, x12, x13, x14]) (s1 := L1.sto (G ++ [some (.lst (r.map eR))])) (by simp [asgG, Es.of, evB1, lenD, e1])]
    have w1 : atD (L1.sto (G ++ [some (.lst (r.map eR))])) (.obj (G.length + 3)) (.int a) = some (eR r[a]) := by simp [atD, ha']
    rw [seq_nx (e1 := [some (.obj 2), some S.d, some lk, some (.int S.pl.length), some (.int S.nm.length), some (.obj (G.length + 3)), some (.int a), some (eR one), some (.int dd), x9, x10, x11, x12, x13, x14]) (s1 := L1.sto (G ++ [some (.lst (r.map eR))])) (by
      simp [asgG, w1, hmx0, q1, q2, q3, seqSrc, evB1, hz1, hdd])]
    rw [seq_nx (e1 := [some (.obj 2), some S.d, some lk, some (.int S.pl.length), some (.int S.nm.length), some (.obj (G.length + 3)), some (.int a), some (eR one), some (.int dd), some (eR r[j]), x10, x11, x12, x13, x14]) (s1 := L1.sto (G ++ [some (.lst ((r.eraseIdx j).map eR))])) (by
      have w2 : ∀ s, evE ⟨run PD 200 k, 200, b⟩ [some (.obj 2), some S.d, some lk, some (.int S.pl.length), some (.int S.nm.length), some (.obj (G.length + 3)), some (.int a), some (eR one), some (.int dd), x9, x10, x11, x12, x13, x14] (.ife (.val (.cmp .le (.var 8) (.int 256))) (.var 6) (.int 0)) s = some (.int j, s) := fun s => by
        rw [← hje]
        by_cases h : dd ≤ 256
        · simp [h]
        · simp [h]
      simp only [exS_asg, evE_popAt, w2, evE_var]
      simp [asgG, hj63, hj, erase_map])]
    have w3 : (S.nm.length : Int) ≤ 1000000 := by omega
    have w4 : -1000000 ≤ (S.nm.length : Int) := by omega
    rw [seq_nx (e1 := [some (.obj 2), some S.d, some lk, some (.int S.pl.length), some (.int S.nm.length), some (.obj (G.length + 3)), some (.int a), some (eR one), some (.int dd), some (eR r[j]), some (eM ms), x11, x12, x13, x14]) (s1 := L2.sto (G ++ [some (.lst ((r.eraseIdx j).map eR))])) (by
      simp [asgG, w3, w4, ZL, rg_nat, e3, evB1, listD]
      rfl)]
    rw [seq_nx e4]
    rw [seq_nx e7]
    rw [seq_nx (e1 := [some (.obj 2), some S.d, some lk, some (.int S.pl.length), some (.int S.nm.length), some (.obj (G.length + 3)), some (.int a), some (eR one), some (.int dd), some (eR r[j]), some (eM ms2), some (eR y), some (eR n), x13, x14]) (s1 := L5.sto (G ++ [some (.lst ((r.eraseIdx j ++ [Pg.look pl ms2 y n]).map eR))])) (by
      simp [Es.of, e8, hR, hel, ZL])]
    rfl
  · rw [List.length_append, List.length_singleton, List.length_eraseIdx_of_lt hj]; omega
  · intro p hpm
    rcases List.mem_append.mp hpm with h | h
    · exact hok p (.inr (List.mem_of_mem_eraseIdx h))
    · rw [List.mem_singleton.mp h]
      exact ⟨by omega, hms0, hms1, hms2, hyok.1, hyok.2⟩
  · have : sumZ (r.eraseIdx j ++ [.look pl ms2 y n]) = sumZ (r.eraseIdx j) + (y.sz + n.sz + 1) := by simp [sumZ, Pg.sz]
    rw [this]
    rcases hyn with ⟨rfl, rfl⟩ | ⟨rfl, rfl⟩ <;> omega

theorem c18 {k : Nat} (hk : 2 ≤ k) {S : Stg} (hS : S.ok) {looks : Nat} (hl : looks ≤ 16) {L : Lp} (hL : L.ok) (rest : Sto) :
    ∃ (p : Pg) (L' : Lp) (more : Sto), run PD 200 k 18 [.obj 2, S.d, .int looks] (L.sto rest) = some (p.d, L'.sto (rest ++ more)) ∧ L'.ok ∧ p.ok S ∧ p.sz ≤ 40 := by
  obtain ⟨k, rfl⟩ := Nat.exists_eq_add_of_le' hk
  have hnl := hS.nl; have hn1 := hS.n1; have hpl := hS.pl; have hp1 := hS.p1
  obtain ⟨n1, hn1'⟩ : ∃ n1 : Nat, n1 = looks + 1 := ⟨_, rfl⟩
  have g1 : (looks : Int) + 1 = (n1 : Int) := by omega
  have g2 : (n1 : Int) ≤ 1000000 := by omega
  have g3 : -1000000 ≤ (n1 : Int) := by omega
  obtain ⟨L1, x6, ws, e1, hL1, hw1, hw2⟩ := tells18 (k := k + 1) (by omega) (L.sto rest).length rest (some S.d) (some (.int looks)) (some (.int S.pl.length)) (some (.int S.nm.length)) n1 L hL (by omega)
  obtain ⟨env', s', h1, L', o, y6, y7, y8, y9, y10, y11, y12, p, more, rfl, rfl, hL', hgo, hpok, hpz⟩ := whlE_inv (C := ⟨run PD 200 (k + 1), 200, (L.sto rest).length⟩) (t := b18_4) (b := b18_5) (env := [some (.obj 2), some S.d, some (.int looks), some (.int S.pl.length), some (.int S.nm.length), some (.obj (rest.length + 3)), x6, none, none, none, none, none, none, none, none]) (s := L1.sto (rest ++ [some (.lst (ws.map fun w => eR (.tell w)))]))
    (fun m env s => ∃ L' o y6 y7 y8 y9 y10 y11 y12 ps more, m = ps.length ∧ env = [some (.obj 2), some S.d, some (.int looks), some (.int S.pl.length), some (.int S.nm.length), some (.obj o), y6, y7, y8, y9, y10, y11, y12, none, none] ∧ s = Lp.sto L' (rest ++ more) ∧ L'.ok ∧ getO (L'.sto (rest ++ more)) o = some (.lst (List.map eR ps)) ∧ 1 ≤ ps.length ∧ ps.length ≤ 17 ∧ (∀ p ∈ ps, p.ok S) ∧ sumZ ps + ps.length = 2 * n1)
    (fun env s => ∃ L' o y6 y7 y8 y9 y10 y11 y12 p more, env = [some (.obj 2), some S.d, some (.int looks), some (.int S.pl.length), some (.int S.nm.length), some (.obj o), y6, y7, y8, y9, y10, y11, y12, none, none] ∧ s = Lp.sto L' (rest ++ more) ∧ L'.ok ∧ getO (L'.sto (rest ++ more)) o = some (.lst [eR p]) ∧ p.ok S ∧ p.sz ≤ 40) ws.length (by show ws.length < 200; omega)
    ⟨L1, _, _, _, _, _, _, _, _, ws.map Pg.tell, _, by simp, rfl, rfl, hL1, by simp, by simp; omega, by simp; omega, fun p hp => by
      obtain ⟨w, hw, rfl⟩ := List.mem_map.mp hp
      exact hw2 w hw, by
      have : ∀ l : List Str, sumZ (l.map Pg.tell) = l.length := fun l => by
        induction l with
        | nil => rfl
        | cons x l ih => simp only [sumZ, List.map_cons, List.sum_cons, List.length_cons] at ih ⊢; rw [ih]; simp [Pg.sz]; try omega
      rw [this, List.length_map]; omega⟩ (by
      rintro m env s ⟨L', o, y6, y7, y8, y9, y10, y11, y12, ps, more, rfl, rfl, rfl, hL', hgo, hp1, hp17, hpok, hsum⟩
      have hc : ∀ b : Bool, decide ((1 : Int) < (ps.length : Int)) = b → evT ⟨run PD 200 (k + 1), 200, (L.sto rest).length⟩ [some (.obj 2), some S.d, some (.int looks), some (.int S.pl.length), some (.int S.nm.length), some (.obj o), y6, y7, y8, y9, y10, y11, y12, none, none] b18_4 (L'.sto (rest ++ more)) = some (b, L'.sto (rest ++ more)) := fun b hb => by
        simp [b18_4, evB1, lenD, hgo] at hb ⊢
        exact hb
      by_cases h : (1 : Int) < (ps.length : Int)
      · obtain ⟨L2, z6, z7, z8, z9, z10, z11, z12, ps2, e2, hL2, hq1, hq2, hq3⟩ := turn18 (k := k + 1) (by omega) (L.sto rest).length hS (rest ++ more) (.int looks) ps (by omega) hp17 hpok (by omega) L' hL' o hgo y6 y7 y8 y9 y10 y11 y12 none none
        refine .inr ⟨_, _, _, ps2.length, hc true (decide_eq_true h), e2, by omega, L2, _, _, _, _, _, _, _, _, ps2, more ++ [some (.lst (ps2.map eR))], rfl, rfl, by rw [List.append_assoc], hL2, ?_, by omega, by omega, hq2, by omega⟩
        rw [← List.append_assoc, getO_sto]
        exact getO_at (rest ++ more) [] _
      · refine .inl ⟨_, hc false (decide_eq_false h), ?_⟩
        obtain ⟨p, rfl⟩ : ∃ p, ps = [p] := by
          match ps, hp1, h with
          | [p], _, _ => exact ⟨p, rfl⟩
          | _ :: _ :: _, _, h => simp at h; omega
        refine ⟨L', o, _, _, _, _, _, _, _, p, more, rfl, rfl, hL', hgo, hpok p (by simp), ?_⟩
        simp [sumZ] at hsum
        omega)
  refine ⟨p, L', more, ?_, hL', hpok, hpz⟩
  rw [run18]
  refine go_rt rfl ?_
  show exSs _ b18 [some (.obj 2), some S.d, some (.int looks), none, none, none, none, none, none, none, none, none, none, none, none] _ = _
  unfold b18
  rw [seq_nx (e1 := [some (.obj 2), some S.d, some (.int looks), some (.int S.pl.length), some (.int S.nm.length), none, none, none, none, none, none, none, none, none, none]) (s1 := L.sto rest) (by simp [evB1, lenD])]
  rw [seq_nx (e1 := [some (.obj 2), some S.d, some (.int looks), some (.int S.pl.length), some (.int S.nm.length), some (.obj (rest.length + 3)), none, none, none, none, none, none, none, none, none]) (s1 := L.sto (rest ++ [some (.lst [])])) (by simp [asgG, ZL])]
  rw [seq_nx (e1 := [some (.obj 2), some S.d, some (.int looks), some (.int S.pl.length), some (.int S.nm.length), some (.obj (rest.length + 3)), x6, none, none, none, none, none, none, none, none]) (s1 := L1.sto (rest ++ [some (.lst (ws.map fun w => eR (.tell w)))])) (by simp [g1, g2, g3, ZL, rg_nat] ; exact e1)]
  rw [seq_nx (by rw [exS_whl]; exact h1)]
  simp [atD, hgo]
  rfl
end K92

/-! K92, mathematics 11: a box by the lamp; the ways. -/
namespace K92
open PySem Fw
theorem marks24 {k : Nat} (hk : 1 ≤ k) (b : Nat) (rest : Sto) (env : En) (he : env.length = 6) (h0 : env[0]? = some (some (.obj 2))) (n : Nat) (hn : n ≤ 9) (L : Lp) (hL : L.ok) :
    ∃ (L' : Lp) (ms : List Nat), srcGo (lcF ⟨run PD 200 k, 200, b⟩ env (.name 5) b24_2 b24_1 [5]) (.vals ((List.range n).map eN)) (L.sto rest) = some (ms.map eN, L'.sto rest) ∧ L'.ok ∧ ms.length ≤ n ∧ ∀ m ∈ ms, m < n := by
  obtain ⟨out, s', h1, L', ms, rfl, h2, rfl, h3, h4⟩ := lc_inv (C := ⟨run PD 200 k, 200, b⟩) (env := env) (g := .name 5) (t := b24_2) (e := b24_1) (own := [5]) (s := L.sto rest) eN
    (fun pre acc s => ∃ L' ms, s = Lp.sto L' rest ∧ L'.ok ∧ acc = List.map eN ms ∧ ms.length ≤ pre.length ∧ ∀ m ∈ ms, m < n) (List.range n) (by rw [List.length_range]; omega) ⟨L, [], rfl, hL, rfl, by simp, by simp⟩ (by
      rintro pre y post acc _ hl ⟨L', ms, rfl, h2, rfl, h3, h4⟩
      have hy : y < n := by
        have : y ∈ List.range n := by rw [hl]; simp
        exact List.mem_range.mp this
      obtain ⟨r, L2, e1, h5, h6⟩ := c15 hk h2 rest (pl := "let") (by simp [plN]) (many := 2) (by decide)
      have e1 : run PD 200 k 15 [.obj 2, .str "let", .int 2] (L'.sto rest) = _ := e1
      have g1 : ((wipeD env [5]).set 5 (some (eN y)))[0]? = some (some (.obj 2)) := by
        simp only [wipeD]
        rw [List.getElem?_set_ne (by decide), List.getElem?_set_ne (by decide)]; exact h0
      have g2 : ((wipeD env [5]).set 5 (some (eN y)))[5]? = some (some (eN y)) := by
        simp only [wipeD]
        rw [List.getElem?_set_self (by simp; omega)]
      by_cases hr : r = 0
      · subst hr
        refine ⟨some (eN y), L2.sto rest, ?_, L2, ms ++ [y], rfl, h5, by simp, by simp; omega, fun m hm => ?_⟩
        · simp [lcF, asgG, g1, g2, b24_1, b24_2, Es.of, e1]
        · rcases List.mem_append.mp hm with h | h
          · exact h4 m h
          · rw [List.mem_singleton.mp h]; exact hy
      · have hr' : ((r : Int) == 0) = false := by simp; omega
        refine ⟨none, L2.sto rest, ?_, L2, ms, rfl, h5, rfl, by simp; omega, h4⟩
        simp [lcF, asgG, g1, g2, b24_1, b24_2, Es.of, e1]
        rw [hr'])
  exact ⟨L', ms, h1, h2, by rw [List.length_range] at h3; exact h3, h4⟩
theorem c24 {k : Nat} (hk : 2 ≤ k) {S : Stg} (hS : S.ok) {L : Lp} (hL : L.ok) (rest : Sto) :
    ∃ (box : List (List Nat)) (L' : Lp) (more : Sto), run PD 200 k 24 [.obj 2, S.d] (L.sto rest) = some (bxD box, L'.sto (rest ++ more)) ∧ L'.ok ∧ BoxOk S box := by
  obtain ⟨k, rfl⟩ := Nat.exists_eq_add_of_le' hk
  have hnl := hS.nl; have hn1 := hS.n1; have hpl := hS.pl; have hp1 := hS.p1
  have w3 : (S.nm.length : Int) ≤ 1000000 := by omega
  have w4 : -1000000 ≤ (S.nm.length : Int) := by omega
  have hnm : ∀ s, lenD s (.tup (S.nm.map .str)) = some S.nm.length := fun s => by simp [lenD]
  have hle : ∀ s (ms : List Nat), lenD s (eM ms) = some ms.length := fun s ms => by simp [eM, lenD]
  obtain ⟨env', s', h1, L', x3, x4, box, rfl, rfl, hL', hb1, hb2⟩ := forE_inv (C := ⟨run PD 200 (k + 1), 200, (L.sto rest).length⟩) (g := .name 3) (b := b24_3) (env := [some (.obj 2), some S.d, some (.obj (rest.length + 3)), none, none, none]) (s := L.sto (rest ++ [some (.lst [])])) eP
    (fun pre env s => ∃ L' x3 x4 box, env = [some (.obj 2), some S.d, some (.obj (rest.length + 3)), x3, x4, none] ∧ s = Lp.sto L' (rest ++ [some (.lst (List.map eM box))]) ∧ L'.ok ∧ box.length = pre.length ∧ ∀ ms ∈ box, ms.length ≤ 9 ∧ ∀ m ∈ ms, m < S.nm.length) S.pl ⟨L, none, none, [], rfl, rfl, hL, rfl, by simp⟩ (by
      rintro pre y post _ _ hl ⟨L', x3, x4, box, rfl, rfl, h2, h3, h4⟩
      have hpl2 := congrArg List.length hl
      simp only [List.length_append, List.length_cons] at hpl2
      obtain ⟨L1, ms, e1, hL1, hm1, hm2⟩ := marks24 (k := k + 1) (by omega) (L.sto rest).length (rest ++ [some (.lst (box.map eM))]) [some (.obj 2), some S.d, some (.obj (rest.length + 3)), some (eP y), x4, none] rfl rfl S.nm.length hnl L' h2
      have hbl : box.length < 1000000 := by omega
      by_cases h0 : 0 < ms.length
      · refine ⟨_, [some (.obj 2), some S.d, some (.obj (rest.length + 3)), some (eP y), some (eM ms), none], L1.sto (rest ++ [some (.lst ((box ++ [ms]).map eM))]), rfl, ?_, L1, _, _, box ++ [ms], rfl, rfl, hL1, by simp [h3], fun q hq => ?_⟩
        · unfold b24_3
          rw [seq_nx (e1 := [some (.obj 2), some S.d, some (.obj (rest.length + 3)), some (eP y), some (eM ms), none]) (s1 := L1.sto (rest ++ [some (.lst (box.map eM))])) (by
            simp at e1
            simp [asgG, evB1, lenD, w3, w4, rg_nat, e1, ZL, listD]
            rfl)]
          simp [evB1, hle, h0, hbl, ZL]
        · rcases List.mem_append.mp hq with h | h
          · exact h4 q h
          · rw [List.mem_singleton.mp h]; exact ⟨by omega, hm2⟩
      · obtain ⟨c, L2, e2, hL2, hc⟩ := c15 (k := k + 1) (by omega) hL1 (rest ++ [some (.lst (box.map eM))]) (pl := "only") (by simp [plN]) (many := S.nm.length) (by omega)
        have g3 : (.tup [.int (c : Int)] : D) = eM [c] := rfl
        refine ⟨_, [some (.obj 2), some S.d, some (.obj (rest.length + 3)), some (eP y), some (eM ms), none], L2.sto (rest ++ [some (.lst ((box ++ [[c]]).map eM))]), rfl, ?_, L2, _, _, box ++ [[c]], rfl, rfl, hL2, by simp [h3], fun q hq => ?_⟩
        · unfold b24_3
          rw [seq_nx (e1 := [some (.obj 2), some S.d, some (.obj (rest.length + 3)), some (eP y), some (eM ms), none]) (s1 := L1.sto (rest ++ [some (.lst (box.map eM))])) (by
            simp at e1
            simp [asgG, evB1, lenD, w3, w4, rg_nat, e1, ZL, listD]
            rfl)]
          simp [evB1, hle, h0, hbl, ZL, Es.of, hnm, e2, g3]
        · rcases List.mem_append.mp hq with h | h
          · exact h4 q h
          · rw [List.mem_singleton.mp h]; exact ⟨by simp, by simp; omega⟩)
  refine ⟨box, L', [none], ?_, hL', hb1, hb2⟩
  rw [run24]
  refine go_rt rfl ?_
  show exSs _ b24 [some (.obj 2), some S.d, none, none, none, none] _ = _
  unfold b24
  rw [seq_nx (e1 := [some (.obj 2), some S.d, some (.obj (rest.length + 3)), none, none, none]) (s1 := L.sto (rest ++ [some (.lst [])])) (by simp [asgG, ZL])]
  rw [seq_nx (e1 := [some (.obj 2), some S.d, some (.obj (rest.length + 3)), x3, x4, none]) (s1 := L'.sto (rest ++ [some (.lst (box.map eM))])) (by simp; exact h1)]
  simp [frzS, evB1, listD]
  rfl
end K92

/-! K92, mathematics 12: the ways. -/
namespace K92
open PySem Fw
/-! () in box -/
def ptI (ms : List Nat) : PyData := .tuple (ms.map fun (m : Nat) => PyData.int (m : Int))
theorem toP_ints : ∀ ms : List Nat, toPL (ms.map eN) = some (ms.map fun (m : Nat) => PyData.int (m : Int))
  | [] => rfl
  | m :: r => by
    have := toP_ints r
    simp only [List.map_cons, toPL, eN, D.toP] at this ⊢
    rw [this]
theorem toP_box : ∀ box : List (List Nat), toPL (box.map eM) = some (box.map ptI)
  | [] => rfl
  | m :: r => by
    have := toP_box r
    simp only [List.map_cons, toPL, eM, D.toP, toP_ints, Option.map_some] at this ⊢
    rw [this]; rfl
theorem can_ints : ∀ ms : List Nat, PyData.canLayAll0 (ms.map fun (m : Nat) => PyData.int (m : Int)) = true ∧ PyData.depthAll (ms.map fun (m : Nat) => PyData.int (m : Int)) = 0
  | [] => by simp [PyData.canLayAll0, PyData.depthAll]
  | m :: r => by
    obtain ⟨a, b⟩ := can_ints r
    simp [PyData.canLayAll0, PyData.depthAll, PyData.canLay0, PyData.depth, a, b]
theorem can_box : ∀ box : List (List Nat), PyData.canLayAll0 (box.map ptI) = true ∧ PyData.depthAll (box.map ptI) ≤ 1
  | [] => by simp [PyData.canLayAll0, PyData.depthAll]
  | m :: r => by
    obtain ⟨a, b⟩ := can_box r
    obtain ⟨c, d⟩ := can_ints m
    simp only [List.map_cons, PyData.canLayAll0, PyData.depthAll, ptI, PyData.canLay0, PyData.depth, c, d, Bool.true_and]
    exact ⟨a, by omega⟩
theorem in_box (box : List (List Nat)) (h : ∀ ms ∈ box, ms ≠ []) : inD (.tup []) (.lst (box.map eM)) = some false := by
  obtain ⟨a, b⟩ := can_box box
  have e1 : D.toP (.tup []) = some (.tuple []) := rfl
  have e2 : D.toP (.lst (box.map eM)) = some (.list (box.map ptI)) := by simp only [D.toP, toP_box, Option.map_some]
  have e3 : SeqAt.shaped (.list (box.map ptI)) = true := by
    exact Bool.and_eq_true_iff.mpr ⟨by simp only [PyData.canLay0, a], decide_eq_true (by simp only [PyData.depth]; omega)⟩
  have e4 : SeqAt.shaped (.tuple []) = true := by decide
  have e5 : ((box.map ptI).any fun z => PyData.eqv z (.tuple [])) = false := by
    rw [List.any_eq_false]
    intro x hx
    obtain ⟨ms, hm, rfl⟩ := List.mem_map.mp hx
    cases ms with
    | nil => exact absurd rfl (h [] hm)
    | cons m r => simp [ptI, PyData.eqv, PyData.eqvAll]
  simp only [inD, seqD]
  rw [if_neg (by simp [flatD]), e1, e2]
  simp only [e3, e4, and_self, if_true, e5]
/-! nodes -/
def Pg.nodes : Pg → List (List Bool × Pg)
  | .tell w => [([], .tell w)]
  | .look p ms y n => ([], .look p ms y n) :: ((y.nodes.map fun t => (true :: t.1, t.2)) ++ (n.nodes.map fun t => (false :: t.1, t.2)))
theorem nodes_at : ∀ (p : Pg) (t : List Bool × Pg), t ∈ p.nodes → p.at t.1 = some t.2
  | .tell w, t, h => by simp [Pg.nodes] at h; subst h; rfl
  | .look p ms y n, t, h => by
    simp only [Pg.nodes, List.mem_cons, List.mem_append, List.mem_map] at h
    rcases h with rfl | ⟨m, hm, rfl⟩ | ⟨m, hm, rfl⟩
    · rfl
    · exact nodes_at y m hm
    · exact nodes_at n m hm
theorem nodes_nd : ∀ p : Pg, (p.nodes.map (·.1)).Nodup
  | .tell _ => by simp [Pg.nodes]
  | .look p ms y n => by
    have a := nodes_nd y; have b := nodes_nd n
    simp only [Pg.nodes, List.map_cons, List.map_append, List.map_map, Function.comp_def]
    refine List.nodup_cons.mpr ⟨by simp, List.nodup_append.mpr ⟨?_, ?_, ?_⟩⟩
    · have := List.Pairwise.map (R := fun a b : List Bool => a ≠ b) (S := fun a b : List Bool => a ≠ b) (fun w => true :: w) (fun a b h e => h (by simpa using e)) a
      simpa [List.Nodup, Function.comp_def] using this
    · have := List.Pairwise.map (R := fun a b : List Bool => a ≠ b) (S := fun a b : List Bool => a ≠ b) (fun w => false :: w) (fun a b h e => h (by simpa using e)) b
      simpa [List.Nodup, Function.comp_def] using this
    · intro x hx z hz e
      obtain ⟨m, _, rfl⟩ := List.mem_map.mp hx
      obtain ⟨m', _, rfl⟩ := List.mem_map.mp hz
      simp at e
theorem nodes_len : ∀ p : Pg, p.nodes.length = p.sz
  | .tell _ => rfl
  | .look p ms y n => by
    have a := nodes_len y; have b := nodes_len n
    simp only [Pg.nodes, Pg.sz, List.length_cons, List.length_append, List.length_map]; omega
/-! keys and entries -/
def kW (w : List Bool) : List L2.Key := w.map fun b => .inl (if b then 1 else 0)
theorem kW_inj {u w : List Bool} (h : kW u = kW w) : u = w := by
  induction u generalizing w with
  | nil => cases w with
    | nil => rfl
    | cons _ _ => simp [kW] at h
  | cons b u ih => cases w with
    | nil => simp [kW] at h
    | cons c w =>
      simp only [kW, List.map_cons, List.cons.injEq] at h
      rw [ih (w := w) h.2]
      have := h.1
      cases b <;> cases c <;> simp at this <;> rfl
theorem toKeys_W : ∀ w : List Bool, toKeys (w.map eB) = some (kW w)
  | [] => rfl
  | b :: w => by
    have := toKeys_W w
    simp only [List.map_cons, toKeys, eB, toKey] at this ⊢
    rw [this]; rfl
def obL : Option (List (List Nat)) → D
  | none => .non
  | some box => .lst (box.map eM)
def oB (S : Stg) (p : Pg) (w : List Bool) : Option (List (List Nat)) := wayB (some (fullB S)) p w
def vW (S : Stg) (p : Pg) (t : List Bool × Pg) : D := .tup [t.2.d, wwD S p t.1, obD (oB S p t.1)]
def eV (S : Stg) (p : Pg) (t : List Bool × Pg) : D := .tup [eW t.1, t.2.d, wwD S p t.1, obL (oB S p t.1)]
def kvW (S : Stg) (p : Pg) (l : List (List Bool × Pg)) : List (List L2.Key × D) := l.map fun t => (kW t.1, vW S p t)
structure OkB (S : Stg) (o : Option (List (List Nat))) : Prop where
  ok : ∀ box, o = some box → BoxOk S box ∧ ∀ ms ∈ box, ms ≠ []
theorem okB_full {S : Stg} (hS : S.ok) : OkB S (some (fullB S)) := ⟨fun box e => by
  cases e
  refine ⟨full_ok hS, fun ms h => ?_⟩
  have := List.eq_of_mem_replicate h
  subst this
  have := hS.n1
  intro e
  rw [List.range_eq_nil] at e
  omega⟩
theorem okB_nar {S : Stg} {o : Option (List (List Nat))} (h : OkB S o) (pl : Nat) (ms : List Nat) (b : Bool) : OkB S (o.bind fun box => narB box pl ms b) := ⟨fun box e => by
  obtain ⟨box0, e0, e1⟩ := Option.bind_eq_some_iff.mp e
  obtain ⟨h1, h2⟩ := h.ok box0 e0
  refine ⟨nar_ok h1 e1, fun l hl => ?_⟩
  unfold narB at e1
  split at e1
  · cases e1
  · rename_i hne
    cases e1
    rcases List.mem_or_eq_of_mem_set hl with hl | rfl
    · exact h2 l hl
    · intro e; rw [e] at hne; simp at hne⟩
theorem okB_way {S : Stg} : ∀ (p : Pg) (o : Option (List (List Nat))) (w : List Bool), OkB S o → OkB S (wayB o p w)
  | p, o, [], h => by cases p <;> exact h
  | .tell _, o, _ :: _, h => ⟨fun box e => by simp [wayB] at e⟩
  | .look pl ms y n, o, b :: w, h => okB_way (if b then y else n) _ w (okB_nar h pl ms b)
/-! the two turns -/
@[simp] theorem g_told (rest junk : Sto) (a b : Option Ob) : getO (rest ++ a :: b :: junk) rest.length = a := getO_at _ _ _
@[simp] theorem g_todo (rest junk : Sto) (a b : Option Ob) : getO (rest ++ a :: b :: junk) (rest.length + 1) = b := by simp [getO]
@[simp] theorem s_todo (rest junk : Sto) (a b c : Option Ob) : setO (rest ++ a :: b :: junk) (rest.length + 1) c = rest ++ a :: c :: junk := by simp [setO]
@[simp] theorem g_new (rest junk : Sto) (a b c : Option Ob) : getO (rest ++ a :: b :: (junk ++ [c])) (rest.length + (junk.length + 1 + 1)) = c := by
  have := getO_at (rest ++ a :: b :: junk) [] c
  simpa using this
@[simp] theorem s_new (rest junk : Sto) (a b c d : Option Ob) : setO (rest ++ a :: b :: (junk ++ [c])) (rest.length + (junk.length + 1 + 1)) d = rest ++ a :: b :: (junk ++ [d]) := by
  have := setO_at (rest ++ a :: b :: junk) [] c d
  simpa using this
theorem lc23 (k b : Nat) (env : En) (he : env.length = 13) (pl : Nat) (ms : List Nat) (y n : Pg) (c : Bool) (h6 : env[6]? = some (some (Pg.look pl ms y n).d)) (h9 : env[9]? = some (some (eB c))) (l : List Nat) (hl : l.length ≤ 9) (s : Sto) :
    srcGo (lcF ⟨run PD 200 k, 200, b⟩ env (.name 12) b23_2 b23_1 [12]) (.vals (l.map eN)) s = some ((l.filter fun m => decide (m ∈ ms) == c).map eN, s) := by
  have e1 := lc_filter (C := ⟨run PD 200 k, 200, b⟩) (env := env) (g := .name 12) (t := b23_2) (e := b23_1) (own := [12]) (s := s) eN (fun m => if (decide (m ∈ ms) == c) = true then some (eN m) else none) l (by omega) fun m h => by
    have g6 : ((wipeD env [12]).set 12 (some (eN m)))[6]? = some (some (Pg.look pl ms y n).d) := by
      simp only [wipeD]
      rw [List.getElem?_set_ne (by decide), List.getElem?_set_ne (by decide)]; exact h6
    have g9 : ((wipeD env [12]).set 12 (some (eN m)))[9]? = some (some (eB c)) := by
      simp only [wipeD]
      rw [List.getElem?_set_ne (by decide), List.getElem?_set_ne (by decide)]; exact h9
    have g12 : ((wipeD env [12]).set 12 (some (eN m)))[12]? = some (some (eN m)) := by
      simp only [wipeD]
      rw [List.getElem?_set_self (by simp; omega)]
    cases c <;> cases hd : decide (m ∈ ms) <;> simp [lcF, asgG, b23_1, b23_2, g6, g9, g12, evCmp, in_M, hd, evB1, eB, scalEq]
  rw [fm_if] at e1
  exact e1
end K92

/-! K92, mathematics 13: the ways' loop. -/
namespace K92
open PySem Fw
theorem ife_t {C : Cc} {t : T} {a b : Ss} {env : En} {s s1 : Sto} (h : evT C env t s = some (true, s1)) : exS C (.ife t a b) env s = exSs C a env s1 := by rw [exS_ife, h]; rfl
theorem ife_f {C : Cc} {t : T} {a b : Ss} {env : En} {s s1 : Sto} (h : evT C env t s = some (false, s1)) : exS C (.ife t a b) env s = exSs C b env s1 := by rw [exS_ife, h]; rfl
theorem ixN_nat {n i : Nat} (h : i < n) : L2.ixN n (i : Int) = some i := by
  unfold L2.ixN
  rw [if_pos (by omega), if_pos (by omega)]; simp
theorem step23 {k : Nat} (hk : 2 ≤ k) {S : Stg} (hS : S.ok) {p : Pg} {w : List Bool} (hw : w.length ≤ 500) {pl : Nat} {ms : List Nat} {y n : Pg} (hat : p.at w = some (.look pl ms y n)) (hok : (Pg.look pl ms y n).ok S) (L : Lp) (rest junk : Sto) (b : Nat) (hb : b ≤ rest.length + 3) (fv : D) (kvs : List (List L2.Key × D)) (stk : List (List Bool × Pg)) (hst : stk.length ≤ 900) (c : Bool) (x10 : Option D) :
    ∃ y10 j2, exSs ⟨run PD 200 k, 200, b⟩ b23_3 [some S.d, some p.d, some fv, some (.obj (rest.length + 3)), some (.obj (rest.length + 1 + 3)), some (eW w), some (Pg.look pl ms y n).d, some (wwD S p w), some (obL (oB S p w)), some (eB c), x10, none, none]
        (L.sto (rest ++ some (.dT kvs) :: some (.lst (stk.map (eV S p))) :: junk)) =
      some (.nx [some S.d, some p.d, some fv, some (.obj (rest.length + 3)), some (.obj (rest.length + 1 + 3)), some (eW w), some (Pg.look pl ms y n).d, some (wwD S p w), some (obL (oB S p w)), some (eB c), y10, none, none]
        (L.sto (rest ++ some (.dT kvs) :: some (.lst ((stk ++ [(w ++ [c], if c then y else n)]).map (eV S p))) :: (junk ++ j2)))) := by
  simp only [Pg.ok] at hok
  have hsn := wayB_snoc (some (fullB S)) p w c _ _ _ _ hat
  have hon : oB S p (w ++ [c]) = (oB S p w).bind fun box => narB box pl ms c := hsn
  have hOk := okB_way p _ w (okB_full hS)
  have hwl := wayW_len S p w
  have e1 := addW w c (by omega)
  have e2 := c22 hS (k := k) (by omega) hok.1 hok.2.2.1 hok.2.2.2.1 c b
  have e3 : evBin .add (wwD S p w) (.lst [.str (lookW S pl ms c)]) = some (wwD S p (w ++ [c])) := by
    unfold wwD
    rw [addL _ _ (by simp; omega), wayW_snoc S p w c _ _ _ _ hat, List.map_append]; rfl
  have e4 : ∀ s, atD s (Pg.look pl ms y n).d (.int (4 - (if c then 1 else 0))) = some (if c then y else n).d := fun s => by cases c <;> simp
  have e5 : evBin .sub (.int 4) (eB c) = some (.int (4 - (if c then 1 else 0))) := rfl
  have e6 : (.tup [eB c] : D) = .tup [.int (if c then 1 else 0)] := rfl
  have hst' : stk.length < 1000000 := by omega
  -- the last statement
  have last : ∀ (kp : D) (j : Sto), kp = obL (oB S p (w ++ [c])) → exS ⟨run PD 200 k, 200, b⟩ (.expr (.app (.var 4) (.tup (Es.of [(.bin .add (.var 5) (.tup (Es.of [(.var 9)]))), (.idx (.var 6) (.bin .sub (.int 4) (.var 9))), (.bin .add (.var 7) (.lst (Es.of [(.call true 22 (Es.of [(.var 0), (.tup (Es.of [(.idx (.var 6) (.int 1)), (.idx (.var 6) (.int 2))])), (.var 9)]))]))), (.var 10)]))))
      [some S.d, some p.d, some fv, some (.obj (rest.length + 3)), some (.obj (rest.length + 1 + 3)), some (eW w), some (Pg.look pl ms y n).d, some (wwD S p w), some (obL (oB S p w)), some (eB c), some kp, none, none] (L.sto (rest ++ some (.dT kvs) :: some (.lst (stk.map (eV S p))) :: j)) =
      some (.nx [some S.d, some p.d, some fv, some (.obj (rest.length + 3)), some (.obj (rest.length + 1 + 3)), some (eW w), some (Pg.look pl ms y n).d, some (wwD S p w), some (obL (oB S p w)), some (eB c), some kp, none, none]
        (L.sto (rest ++ some (.dT kvs) :: some (.lst ((stk ++ [(w ++ [c], if c then y else n)]).map (eV S p))) :: j))) := by
    intro kp j hkp
    have e7 : (.tup [eW (w ++ [c]), (if c then y else n).d, wwD S p (w ++ [c]), kp] : D) = eV S p (w ++ [c], if c then y else n) := by rw [hkp]; rfl
    simp [Es.of, e1, e2, e3, e4, e5, e6, e7, hst', ZL]
  cases ho : oB S p w with
  | none =>
    rw [ho] at hon last
    refine ⟨some .non, [], ?_⟩
    unfold b23_3
    rw [seq_nx (e1 := [some S.d, some p.d, some fv, some (.obj (rest.length + 3)), some (.obj (rest.length + 1 + 3)), some (eW w), some (Pg.look pl ms y n).d, some (wwD S p w), some (obL none), some (eB c), some .non, none, none]) (s1 := L.sto (rest ++ some (.dT kvs) :: some (.lst (stk.map (eV S p))) :: junk)) (by simp [asgG])]
    rw [seq_nx (e1 := [some S.d, some p.d, some fv, some (.obj (rest.length + 3)), some (.obj (rest.length + 1 + 3)), some (eW w), some (Pg.look pl ms y n).d, some (wwD S p w), some (obL none), some (eB c), some .non, none, none]) (s1 := L.sto (rest ++ some (.dT kvs) :: some (.lst (stk.map (eV S p))) :: junk)) (by
      rw [ife_f (s1 := L.sto (rest ++ some (.dT kvs) :: some (.lst (stk.map (eV S p))) :: junk)) (by simp [obL, evCmp])]; rfl)]
    rw [seq_nx (last .non junk (by rw [hon]; rfl))]
    rw [List.append_nil]; rfl
  | some box =>
    rw [ho] at hon last
    obtain ⟨hbo, hne⟩ := hOk.ok box ho
    have hpb : pl < box.length := by rw [hbo.len]; exact hok.1
    have hel := hbo.el _ (List.getElem_mem hpb)
    obtain ⟨lf, hlf⟩ : ∃ lf, lf = leftB box pl ms c := ⟨_, rfl⟩
    have g0 : box.getD pl [] = box[pl] := by rw [List.getD_eq_getElem?_getD, List.getElem?_eq_getElem hpb]; rfl
    have hlf' : (box[pl].filter fun m => decide (m ∈ ms) == c) = lf := by rw [hlf]; unfold leftB; rw [g0]
    have hkp : (if lf.isEmpty then D.non else .lst ((box.set pl lf).map eM)) = obL (oB S p (w ++ [c])) := by
      rw [hon]
      show _ = obL (narB box pl ms c)
      unfold narB
      rw [← hlf]
      split <;> rfl
    have a1 : ∀ s, atD s (.lst (box.map eM)) (.int pl) = some (eM box[pl]) := fun s => by simp [atD, hpb]
    have a2 : ∀ s, atD s (.lst ((box.set pl lf).map eM)) (.int pl) = some (eM lf) := fun s => by simp [atD, hpb]
    have a3 : L2.ixN box.length (pl : Int) = some pl := ixN_nat hpb
    have a4 : (box.map eM).set pl (eM lf) = (box.set pl lf).map eM := by rw [List.map_set]
    have a5 : ∀ s, lenD s (eM lf) = some lf.length := fun s => by simp [eM, lenD]
    have a6 : b ≤ rest.length + (junk.length + 1 + 1) + 3 := by omega
    have a7 : (.tup (lf.map eN) : D) = eM lf := rfl
    have b1 := fun (x10 : Option D) (s : Sto) => lc23 k b [some S.d, some p.d, some fv, some (.obj (rest.length + 3)), some (.obj (rest.length + 1 + 3)), some (eW w), some (Pg.look pl ms y n).d, some (wwD S p w), some (obL (some box)), some (eB c), x10, none, none] rfl pl ms y n c rfl rfl box[pl] hel.1 s
    rw [hlf'] at b1
    refine ⟨some (if lf.isEmpty then D.non else .lst ((box.set pl lf).map eM)), [none], ?_⟩
    unfold b23_3
    rw [seq_nx (e1 := [some S.d, some p.d, some fv, some (.obj (rest.length + 3)), some (.obj (rest.length + 1 + 3)), some (eW w), some (Pg.look pl ms y n).d, some (wwD S p w), some (obL (some box)), some (eB c), some .non, none, none]) (s1 := L.sto (rest ++ some (.dT kvs) :: some (.lst (stk.map (eV S p))) :: junk)) (by simp [asgG])]
    rw [seq_nx (e1 := [some S.d, some p.d, some fv, some (.obj (rest.length + 3)), some (.obj (rest.length + 1 + 3)), some (eW w), some (Pg.look pl ms y n).d, some (wwD S p w), some (obL (some box)), some (eB c), some (if lf.isEmpty then D.non else .lst ((box.set pl lf).map eM)), none, none]) (s1 := L.sto (rest ++ some (.dT kvs) :: some (.lst (stk.map (eV S p))) :: (junk ++ [none]))) (by
      rw [ife_t (s1 := L.sto (rest ++ some (.dT kvs) :: some (.lst (stk.map (eV S p))) :: junk)) (by simp [obL, evCmp])]
      rw [seq_nx (e1 := [some S.d, some p.d, some fv, some (.obj (rest.length + 3)), some (.obj (rest.length + 1 + 3)), some (eW w), some (Pg.look pl ms y n).d, some (wwD S p w), some (obL (some box)), some (eB c), some (.obj (rest.length + (junk.length + 1 + 1) + 3)), none, none]) (s1 := L.sto (rest ++ some (.dT kvs) :: some (.lst (stk.map (eV S p))) :: (junk ++ [some (.lst (box.map eM))]))) (by simp [asgG, obL, listD])]
      rw [seq_nx (e1 := [some S.d, some p.d, some fv, some (.obj (rest.length + 3)), some (.obj (rest.length + 1 + 3)), some (eW w), some (Pg.look pl ms y n).d, some (wwD S p w), some (obL (some box)), some (eB c), some (.obj (rest.length + (junk.length + 1 + 1) + 3)), none, none]) (s1 := L.sto (rest ++ some (.dT kvs) :: some (.lst (stk.map (eV S p))) :: (junk ++ [some (.lst ((box.set pl lf).map eM))]))) (by
        simp only [exS_seti, evE_b1, evE_lc, own1, if_true, evI_seq, evE_idx, evE_var]
        simp only [obL] at b1
        simp [obL, a1, b1, evB1, listD, a7, a3])]
      have a8 : ∀ s, atD s (.lst ((box.map eM).set pl (eM lf))) (.int pl) = some (eM lf) := fun s => by simp [atD, hpb]
      cases hle : lf with
      | nil =>
        rw [hle] at a8 a5
        simp [frzS, a6, a8, a5, evB1, asgG]
      | cons m0 r0 =>
        rw [hle] at a8 a5
        have a9 : ((r0.length : Int) + 1 == 0) = false := by simp; omega
        simp [frzS, a6, a8, a5, evB1, asgG]
        rw [a9]
        rfl)]
    rw [seq_nx (last _ (junk ++ [none]) hkp)]
    rfl

def flatN (stk : List (List Bool × Pg)) : List (List Bool × Pg) := (stk.map fun t => t.2.nodes.map fun u => (t.1 ++ u.1, u.2)).flatten
theorem putD_new {κ : Type} [DecidableEq κ] {kvs : List (κ × D)} {k : κ} (h : ∀ kv ∈ kvs, kv.1 ≠ k) (d : D) : putD kvs k d = kvs ++ [(k, d)] := by
  unfold putD
  rw [if_neg]
  simp only [List.any_eq_true, decide_eq_true_eq]
  rintro ⟨x, hx, e⟩
  exact h x hx e
theorem box23 {S : Stg} {p : Pg} (hS : S.ok) (w : List Bool) (C : Cc) (env : En) (h8 : env[8]? = some (some (obL (oB S p w)))) (s : Sto) :
    evE C env (.ife (.or (.val (.cmp .isN (.var 8) .non)) (.val (.cmp .isin (.tup .nil) (.var 8)))) .non (.b1 .tup (.var 8))) s = some (obD (oB S p w), s) := by
  have hOk := okB_way p _ w (okB_full hS)
  cases ho : oB S p w with
  | none => rw [ho] at h8; simp [h8, obL, evCmp, obD]
  | some box =>
    rw [ho] at h8
    obtain ⟨hbo, hne⟩ := hOk.ok box ho
    have e1 : evCmp .isin (.tup []) (.lst (box.map eM)) = some false := in_box box hne
    have e2 : evCmp .isN (.lst (box.map eM)) .non = some false := rfl
    simp [h8, obL, e1, e2, obD, evB1, listD, ZL]
    rfl
theorem c23 {k : Nat} (hk : 3 ≤ k) {S : Stg} (hS : S.ok) {p : Pg} (hp : p.ok S) (hz : p.sz ≤ 150) (L : Lp) (rest : Sto) :
    ∃ junk, run PD 200 k 23 [S.d, p.d] (L.sto rest) = some (.obj (rest.length + 3), L.sto (rest ++ some (.dT (kvW S p p.nodes)) :: junk)) := by
  obtain ⟨k, rfl⟩ := Nat.exists_eq_add_of_le' hk
  have hnl := hS.nl; have hpl := hS.pl
  have hdp := p.dep_lt
  have hnd := nodes_nd p
  have hnl2 := nodes_len p
  obtain ⟨env', s', h1, env1, junk, rfl, rfl⟩ := whlE_inv (C := ⟨run PD 200 (k + 2), 200, (L.sto rest).length⟩) (t := b23_4) (b := b23_5) (env := [some S.d, some p.d, some (obL (some (fullB S))), some (.obj (rest.length + 3)), some (.obj (rest.length + 1 + 3)), none, none, none, none, none, none, none, none]) (s := L.sto (rest ++ some (.dT []) :: some (.lst [eV S p ([], p)]) :: []))
    (fun m env s => ∃ x5 x6 x7 x8 x9 x10 told stk junk, m = szs stk ∧ env = [some S.d, some p.d, some (obL (some (fullB S))), some (.obj (rest.length + 3)), some (.obj (rest.length + 1 + 3)), x5, x6, x7, x8, x9, x10, none, none] ∧ s = L.sto (rest ++ some (.dT (kvW S p told)) :: some (.lst (List.map (eV S p) stk.reverse)) :: junk) ∧ told ++ flatN stk = p.nodes ∧ (∀ t ∈ stk, p.at t.1 = some t.2) ∧ szs stk ≤ p.sz)
    (fun env s => ∃ (env1 : En) (junk : Sto), env = some S.d :: some p.d :: some (obL (some (fullB S))) :: some (.obj (rest.length + 3)) :: env1 ∧ s = L.sto (rest ++ some (.dT (kvW S p p.nodes)) :: junk)) p.sz (by show p.sz < 200; omega)
    ⟨none, none, none, none, none, none, [], [([], p)], [], by simp [szs], rfl, rfl, by simp [flatN], by simp; cases p <;> rfl, by simp [szs]⟩ (by
      rintro m env s ⟨x5, x6, x7, x8, x9, x10, told, stk, junk, rfl, rfl, rfl, hf, hat, hsz⟩
      have htl : told.length ≤ p.sz := by
        have := congrArg List.length hf
        simp only [List.length_append] at this
        omega
      have hslen := szs_len stk
      cases stk with
      | nil =>
        refine .inl ⟨L.sto (rest ++ some (.dT (kvW S p told)) :: some (.lst []) :: junk), by simp [b23_4, evB1, lenD], _, some (.lst []) :: junk, rfl, ?_⟩
        have : told = p.nodes := by simpa [flatN] using hf
        rw [this]
      | cons t r =>
        obtain ⟨w, q⟩ := t
        have hq := hat (w, q) (List.mem_cons_self ..)
        have hwl := len_at p q w hq
        have hqok := ok_at p q w hp hq
        have hkl : (kvW S p told).length < 1000000 := by rw [kvW, List.length_map]; omega
        have hput : ∀ d, putD (kvW S p told) (kW w) d = kvW S p told ++ [(kW w, d)] := fun d => putD_new (fun kv hkv e => by
          obtain ⟨t, ht, rfl⟩ := List.mem_map.mp hkv
          have e := kW_inj e
          rw [← hf] at hnd
          simp only [List.map_append] at hnd
          have hd := (List.nodup_append.mp hnd).2.2 t.1 (List.mem_map.mpr ⟨t, ht, rfl⟩) w (List.mem_map.mpr ⟨(w, q), by
            simp only [flatN, List.map_cons, List.flatten_cons, List.mem_append]
            left
            cases q <;> simp [Pg.nodes], rfl⟩)
          exact hd e) d
        have hkv : kvW S p told ++ [(kW w, vW S p (w, q))] = kvW S p (told ++ [(w, q)]) := by simp [kvW]
        have hgt : evT ⟨run PD 200 (k + 2), 200, (L.sto rest).length⟩ [some S.d, some p.d, some (obL (some (fullB S))), some (.obj (rest.length + 3)), some (.obj (rest.length + 1 + 3)), x5, x6, x7, x8, x9, x10, none, none] b23_4 (L.sto (rest ++ some (.dT (kvW S p told)) :: some (.lst (List.map (eV S p) ((w, q) :: r).reverse)) :: junk)) = some (true, L.sto (rest ++ some (.dT (kvW S p told)) :: some (.lst (List.map (eV S p) ((w, q) :: r).reverse)) :: junk)) := by
          have : (0 : Int) < (r.length : Int) + 1 := by omega
          simp [b23_4, evB1, lenD, this]
        have s1 : exS ⟨run PD 200 (k + 2), 200, (L.sto rest).length⟩ (.asg (.tup (Gs.of [(.name 5), (.name 6), (.name 7), (.name 8)])) (.pop (.var 4))) [some S.d, some p.d, some (obL (some (fullB S))), some (.obj (rest.length + 3)), some (.obj (rest.length + 1 + 3)), x5, x6, x7, x8, x9, x10, none, none] (L.sto (rest ++ some (.dT (kvW S p told)) :: some (.lst (List.map (eV S p) ((w, q) :: r).reverse)) :: junk)) =
            some (.nx [some S.d, some p.d, some (obL (some (fullB S))), some (.obj (rest.length + 3)), some (.obj (rest.length + 1 + 3)), some (eW w), some q.d, some (wwD S p w), some (obL (oB S p w)), x9, x10, none, none] (L.sto (rest ++ some (.dT (kvW S p told)) :: some (.lst (List.map (eV S p) r.reverse)) :: junk))) := by
          simp [Gs.of, asgG, asgGs, eV]
        have s2 : exS ⟨run PD 200 (k + 2), 200, (L.sto rest).length⟩ (.dput (.var 3) (.var 5) (.tup (Es.of [(.var 6), (.var 7), (.ife (.or (.val (.cmp .isN (.var 8) .non)) (.val (.cmp .isin (.tup .nil) (.var 8)))) .non (.b1 .tup (.var 8)))]))) [some S.d, some p.d, some (obL (some (fullB S))), some (.obj (rest.length + 3)), some (.obj (rest.length + 1 + 3)), some (eW w), some q.d, some (wwD S p w), some (obL (oB S p w)), x9, x10, none, none] (L.sto (rest ++ some (.dT (kvW S p told)) :: some (.lst (List.map (eV S p) r.reverse)) :: junk)) =
            some (.nx [some S.d, some p.d, some (obL (some (fullB S))), some (.obj (rest.length + 3)), some (.obj (rest.length + 1 + 3)), some (eW w), some q.d, some (wwD S p w), some (obL (oB S p w)), x9, x10, none, none] (L.sto (rest ++ some (.dT (kvW S p (told ++ [(w, q)]))) :: some (.lst (List.map (eV S p) r.reverse)) :: junk))) := by
          have e1 := fun s => box23 (p := p) hS w ⟨run PD 200 (k + 2), 200, (L.sto rest).length⟩ [some S.d, some p.d, some (obL (some (fullB S))), some (.obj (rest.length + 3)), some (.obj (rest.length + 1 + 3)), some (eW w), some q.d, some (wwD S p w), some (obL (oB S p w)), x9, x10, none, none] rfl s
          have e2 : (.tup [q.d, wwD S p w, obD (oB S p w)] : D) = vW S p (w, q) := rfl
          simp only [exS_dput, evE_tup, Es.of, evEs_cons, evEs_nil, e1, evE_var]
          simp [ZL, e2, hkl]
          simp only [eW, toKeys_W, Option.map_some, hput, hkv]
        have hr : ∀ t ∈ r, p.at t.1 = some t.2 := fun t ht => hat t (List.mem_cons_of_mem _ ht)
        cases q with
        | tell word =>
          refine .inr ⟨_, [some S.d, some p.d, some (obL (some (fullB S))), some (.obj (rest.length + 3)), some (.obj (rest.length + 1 + 3)), some (eW w), some (Pg.tell word).d, some (wwD S p w), some (obL (oB S p w)), x9, x10, none, none], L.sto (rest ++ some (.dT (kvW S p (told ++ [(w, .tell word)]))) :: some (.lst (List.map (eV S p) r.reverse)) :: junk), szs r, hgt, ?_, by simp [szs, Pg.sz], _, _, _, _, _, _, told ++ [(w, .tell word)], r, junk, rfl, rfl, rfl, ?_, hr, ?_⟩
          · unfold b23_5
            rw [seq_nx s1, seq_nx s2]
            rw [seq_nx (e1 := [some S.d, some p.d, some (obL (some (fullB S))), some (.obj (rest.length + 3)), some (.obj (rest.length + 1 + 3)), some (eW w), some (Pg.tell word).d, some (wwD S p w), some (obL (oB S p w)), x9, x10, none, none]) (s1 := L.sto (rest ++ some (.dT (kvW S p (told ++ [(w, .tell word)]))) :: some (.lst (List.map (eV S p) r.reverse)) :: junk)) (by
              rw [ife_f (s1 := L.sto (rest ++ some (.dT (kvW S p (told ++ [(w, .tell word)]))) :: some (.lst (List.map (eV S p) r.reverse)) :: junk)) (by simp)]; rfl)]
            rfl
          · rw [← hf]; simp [flatN, Pg.nodes]
          · simp [szs, Pg.sz] at hsz ⊢; omega
        | look pl ms y n =>
          obtain ⟨y1, j1, e1⟩ := step23 (k := k + 2) (by omega) hS (w := w) (by omega) hq hqok L rest junk (L.sto rest).length (Nat.le_refl _) (obL (some (fullB S))) (kvW S p (told ++ [(w, .look pl ms y n)])) r.reverse (by rw [List.length_reverse]; simp at hslen; omega) false x10
          obtain ⟨y2, j2, e2⟩ := step23 (k := k + 2) (by omega) hS (w := w) (by omega) hq hqok L rest (junk ++ j1) (L.sto rest).length (Nat.le_refl _) (obL (some (fullB S))) (kvW S p (told ++ [(w, .look pl ms y n)])) (r.reverse ++ [(w ++ [false], n)]) (by rw [List.length_append, List.length_reverse]; simp at hslen ⊢; omega) true y1
          simp only [Bool.false_eq_true, if_false, if_true] at e1 e2
          have hsn : ∀ c : Bool, p.at (w ++ [c]) = some (if c then y else n) := fun c => at_snoc p w c _ _ _ _ hq
          refine .inr ⟨_, [some S.d, some p.d, some (obL (some (fullB S))), some (.obj (rest.length + 3)), some (.obj (rest.length + 1 + 3)), some (eW w), some (Pg.look pl ms y n).d, some (wwD S p w), some (obL (oB S p w)), some (eB true), y2, none, none], L.sto (rest ++ some (.dT (kvW S p (told ++ [(w, .look pl ms y n)]))) :: some (.lst (List.map (eV S p) ((w ++ [true], y) :: (w ++ [false], n) :: r).reverse)) :: (junk ++ j1 ++ j2)), szs ((w ++ [true], y) :: (w ++ [false], n) :: r), hgt, ?_, by simp [szs, Pg.sz]; omega, _, _, _, _, _, _, told ++ [(w, .look pl ms y n)], (w ++ [true], y) :: (w ++ [false], n) :: r, junk ++ j1 ++ j2, rfl, rfl, rfl, ?_, ?_, ?_⟩
          · have hrv : ((w ++ [true], y) :: (w ++ [false], n) :: r).reverse = r.reverse ++ [(w ++ [false], n)] ++ [(w ++ [true], y)] := by simp
            rw [hrv]
            unfold b23_5
            rw [seq_nx s1, seq_nx s2]
            rw [seq_nx (e1 := [some S.d, some p.d, some (obL (some (fullB S))), some (.obj (rest.length + 3)), some (.obj (rest.length + 1 + 3)), some (eW w), some (Pg.look pl ms y n).d, some (wwD S p w), some (obL (oB S p w)), some (eB true), y2, none, none]) (s1 := L.sto (rest ++ some (.dT (kvW S p (told ++ [(w, .look pl ms y n)]))) :: some (.lst (List.map (eV S p) (r.reverse ++ [(w ++ [false], n)] ++ [(w ++ [true], y)]))) :: (junk ++ j1 ++ j2))) (by
              rw [ife_t (s1 := L.sto (rest ++ some (.dT (kvW S p (told ++ [(w, .look pl ms y n)]))) :: some (.lst (List.map (eV S p) r.reverse)) :: junk)) (by simp)]
              have hfor : exS ⟨run PD 200 (k + 2), 200, (L.sto rest).length⟩ (.for_ (.name 9) (.seq (.tup (Es.of [(.int 0), (.int 1)]))) b23_3) [some S.d, some p.d, some (obL (some (fullB S))), some (.obj (rest.length + 3)), some (.obj (rest.length + 1 + 3)), some (eW w), some (Pg.look pl ms y n).d, some (wwD S p w), some (obL (oB S p w)), x9, x10, none, none] (L.sto (rest ++ some (.dT (kvW S p (told ++ [(w, .look pl ms y n)]))) :: some (.lst (List.map (eV S p) r.reverse)) :: junk)) =
                  forE ⟨run PD 200 (k + 2), 200, (L.sto rest).length⟩ (.name 9) b23_3 [eB false, eB true] [some S.d, some p.d, some (obL (some (fullB S))), some (.obj (rest.length + 3)), some (.obj (rest.length + 1 + 3)), some (eW w), some (Pg.look pl ms y n).d, some (wwD S p w), some (obL (oB S p w)), x9, x10, none, none] (L.sto (rest ++ some (.dT (kvW S p (told ++ [(w, .look pl ms y n)]))) :: some (.lst (List.map (eV S p) r.reverse)) :: junk)) := by
                simp [Es.of, ZL, eB]
              rw [exSs_cons, hfor]
              simp only [forE, forV, asgG, List.set_cons_succ, List.set_cons_zero, e1, e2, exSs_nil])]
            rfl
          · rw [← hf]; simp [flatN, Pg.nodes, Function.comp_def]
          · intro t ht
            simp only [List.mem_cons] at ht
            rcases ht with rfl | rfl | ht
            · exact hsn true
            · exact hsn false
            · exact hr t ht
          · simp [szs, Pg.sz] at hsz ⊢; omega)
  refine ⟨junk, ?_⟩
  rw [run23]
  refine go_rt rfl ?_
  show exSs _ b23 [some S.d, some p.d, none, none, none, none, none, none, none, none, none, none, none] _ = _
  have e1 := lc_map (C := ⟨run PD 200 (k + 2), 200, (L.sto rest).length⟩) (env := [some S.d, some p.d, none, none, none, none, none, none, none, none, none, none, none]) (g := .name 11) (t := .yes) (e := b23_6) (own := [11]) (s := L.sto rest) eP (fun _ => eM (List.range S.nm.length)) S.pl (by omega) fun q hq => by
    have h3 : (S.nm.length : Int) ≤ 1000000 := by omega
    simp [lcF, asgG, wipeD, b23_6, evB1, lenD, h3, ZL, rg_nat]
    rfl
  have e2 : (.lst (S.pl.map fun _ => eM (List.range S.nm.length)) : D) = obL (some (fullB S)) := by
    simp [obL, fullB, List.map_replicate, List.map_const']
  unfold b23
  rw [seq_nx (e1 := [some S.d, some p.d, some (obL (some (fullB S))), none, none, none, none, none, none, none, none, none, none]) (s1 := L.sto rest) (by
    simp only [exS_asg, evE_lc, own1, if_true, evI_seq, evE_idx, evE_var, evE_int]
    rw [sto_len] at e1
    simp [e1, e2, asgG])]
  rw [seq_nx (e1 := [some S.d, some p.d, some (obL (some (fullB S))), some (.obj (rest.length + 3)), some (.obj (rest.length + 1 + 3)), none, none, none, none, none, none, none, none]) (s1 := L.sto (rest ++ some (.dT []) :: some (.lst [eV S p ([], p)]) :: [])) (by
    have : (.tup [.tup [], p.d, .lst [], obL (some (fullB S))] : D) = eV S p ([], p) := by
      have : wayB (some (fullB S)) p [] = some (fullB S) := by cases p <;> rfl
      simp [eV, eW, wwD, wayW, oB, this]
    simp [Es.of, this, ZL])]
  rw [seq_nx (by rw [exS_whl]; exact h1)]
  simp
end K92

/-! K92, mathematics 14: what is asked; the law. -/
namespace K92
open PySem Fw
/-! sane data -/
theorem saneL_map {α : Type} {en : α → D} (l : List α) (h : ∀ x ∈ l, sane (en x) = true) : saneL (l.map en) = true := by
  induction l with
  | nil => rfl
  | cons x l ih => simp only [List.map_cons, saneL, h x (List.mem_cons_self ..), ih fun y m => h y (List.mem_cons_of_mem _ m), Bool.and_self]
theorem dpL_map {α : Type} {en : α → D} (n : Nat) (l : List α) (h : ∀ x ∈ l, dpD (en x) ≤ n) : dpL (l.map en) ≤ n := by
  induction l with
  | nil => exact Nat.zero_le _
  | cons x l ih =>
    have a := h x (List.mem_cons_self ..)
    have b := ih fun y m => h y (List.mem_cons_of_mem _ m)
    simp only [List.map_cons, dpL]; omega
structure Gd (d : D) (n : Nat) : Prop where
  s : sane d = true
  d : dpD d ≤ n
theorem Gd.mono {d : D} {n m : Nat} (h : Gd d n) (hm : n ≤ m) : Gd d m := ⟨h.s, Nat.le_trans h.d hm⟩
theorem gd_lst {α : Type} {en : α → D} {n : Nat} (l : List α) (hl : l.length ≤ 1000000) (h : ∀ x ∈ l, Gd (en x) n) : Gd (.lst (l.map en)) (n + 1) :=
  ⟨by simp only [sane, List.length_map, hl, decide_true, Bool.true_and]; exact saneL_map l fun x m => (h x m).s, by simp only [dpD]; exact Nat.succ_le_succ (dpL_map n l fun x m => (h x m).d)⟩
theorem gd_tup {α : Type} {en : α → D} {n : Nat} (l : List α) (hl : l.length ≤ 1000000) (h : ∀ x ∈ l, Gd (en x) n) : Gd (.tup (l.map en)) (n + 1) :=
  ⟨by simp only [sane, List.length_map, hl, decide_true, Bool.true_and]; exact saneL_map l fun x m => (h x m).s, by simp only [dpD]; exact Nat.succ_le_succ (dpL_map n l fun x m => (h x m).d)⟩
theorem gd2 {a b : D} {n : Nat} (ha : Gd a n) (hb : Gd b n) : Gd (.tup [a, b]) (n + 1) := by
  have := gd_tup (en := id) [a, b] (by simp) (fun x m => by simp at m; rcases m with rfl | rfl; exact ha; exact hb)
  simpa using this
theorem gd3 {a b c : D} {n : Nat} (ha : Gd a n) (hb : Gd b n) (hc : Gd c n) : Gd (.tup [a, b, c]) (n + 1) := by
  have := gd_tup (en := id) [a, b, c] (by simp) (fun x m => by simp at m; rcases m with rfl | rfl | rfl; exact ha; exact hb; exact hc)
  simpa using this
theorem gd_str (x : Str) : Gd (.str x) 0 := ⟨rfl, Nat.le_refl _⟩
theorem gd_int (x : Int) : Gd (.int x) 0 := ⟨rfl, Nat.le_refl _⟩
theorem gd_M {ms : List Nat} (h : ms.length ≤ 1000) : Gd (eM ms) 1 := gd_tup ms (by omega) fun x _ => gd_int _
theorem gd_W {w : List Bool} (h : w.length ≤ 1000) : Gd (eW w) 1 := gd_tup w (by omega) fun x _ => gd_int _
theorem gd_pg {S : Stg} : ∀ p : Pg, p.ok S → Gd p.d (p.dep + 2)
  | .tell w, _ => (gd2 (gd_str "tell") (gd_str w)).mono (by omega)
  | .look pl ms y n, h => by
    simp only [Pg.ok] at h
    have a := gd_pg y h.2.2.2.2.1
    have b := gd_pg n h.2.2.2.2.2
    have c := gd_M (ms := ms) (by omega)
    have := gd_tup (n := (Pg.look pl ms y n).dep + 1) (en := id) [.str "look", .int pl, eM ms, y.d, n.d] (by simp) (fun x m => by
      simp only [Pg.dep]
      simp at m
      rcases m with rfl | rfl | rfl | rfl | rfl
      · exact (gd_str _).mono (by omega)
      · exact (gd_int _).mono (by omega)
      · exact c.mono (by omega)
      · exact a.mono (by omega)
      · exact b.mono (by omega))
    rw [List.map_id] at this
    exact this
theorem gd_lv {p : Pg} (h : p.sz ≤ 400) : Gd (lvD p) 3 := by
  have hd := p.dep_lt
  have hl := p.leaves_len
  exact gd_tup p.leaves (by omega) fun l m => gd2 (gd_W (by have := p.leaves_dep l m; omega)) ((gd_str _).mono (by omega))
theorem looks_ok {S : Stg} : ∀ p : Pg, p.ok S → ∀ l ∈ p.looks, l.2.length ≤ 9
  | .tell _, _, l, h => by simp [Pg.looks] at h
  | .look pl ms y n, hp, l, h => by
    simp only [Pg.ok] at hp
    simp only [Pg.looks, List.cons_append, List.mem_cons, List.mem_append] at h
    rcases h with rfl | h | h
    · exact hp.2.2.1
    · exact looks_ok y hp.2.2.2.2.1 l h
    · exact looks_ok n hp.2.2.2.2.2 l h
theorem gd_lo {S : Stg} {p : Pg} (hp : p.ok S) (h : p.sz ≤ 400) : Gd (loD p) 3 := by
  have hl := p.looks_len
  exact gd_tup p.looks (by omega) fun l m => gd2 ((gd_int _).mono (by omega)) (gd_M (by have := looks_ok p hp l m; omega))
theorem gd_iw (S : Stg) {p : Pg} (h : p.sz ≤ 400) : Gd (iwD S p) 1 := by
  have hl := p.leaves_len
  exact gd_lst p.leaves (by omega) fun l _ => gd_str _
theorem gd_ww (S : Stg) (p : Pg) {w : List Bool} (h : w.length ≤ 1000) : Gd (wwD S p w) 1 := by
  have hl := wayW_len S p w
  exact gd_lst (en := D.str) (wayW S p w) (by omega) fun l _ => gd_str _
theorem gd_bx {S : Stg} (hS : S.ok) {box : List (List Nat)} (h : BoxOk S box) : Gd (bxD box) 2 := by
  have := h.len; have := hS.pl
  exact gd_tup box (by omega) fun ms m => gd_M (by have := (h.el ms m).1; omega)
theorem gd_ob {S : Stg} (hS : S.ok) {o : Option (List (List Nat))} (h : OkB S o) : Gd (obD o) 2 := by
  cases o with
  | none => exact ⟨rfl, by simp [obD, dpD]⟩
  | some box => exact gd_bx hS (h.ok box rfl).1
theorem gd_bw {S : Stg} (hS : S.ok) (box : List (List Nat)) : Gd (bwD S box) 1 := by
  have := hS.pl
  exact gd_lst _ (by rw [List.length_zip]; omega) fun l _ => gd_str _
theorem same {k : Nat} {d : D} {n : Nat} (h : Gd d n) (hk : n < k) (b : Nat) (s : Sto) : Cc.run ⟨run PD 200 k, 200, b⟩ true 16 [d, d] s = some (.bl true, s) := c16 k d h.s (Nat.lt_of_le_of_lt h.d hk) b s
/-! the dict of the ways -/
theorem look_ways {S : Stg} {p : Pg} {t : List Bool × Pg} (h : t ∈ p.nodes) : lookD (kvW S p p.nodes) (kW t.1) = some (vW S p t) := by
  have hn := nodes_nd p
  have : ∀ l : List (List Bool × Pg), (l.map (·.1)).Nodup → t ∈ l → lookD (kvW S p l) (kW t.1) = some (vW S p t) := by
    intro l
    induction l with
    | nil => intro _ h; cases h
    | cons x l ih =>
      intro hn h
      obtain ⟨h1, h2⟩ := List.nodup_cons.mp hn
      unfold lookD kvW
      rw [List.map_cons]
      rcases List.mem_cons.mp h with rfl | h
      · rw [List.find?_cons_of_pos (by simp)]; rfl
      · have : ¬ kW x.1 = kW t.1 := fun e => h1 (by show x.1 ∈ _; rw [kW_inj e]; exact List.mem_map.mpr ⟨t, h, rfl⟩)
        rw [List.find?_cons_of_neg (by simpa using this)]
        exact ih h2 h
  exact this _ hn h
theorem keys_ways (S : Stg) (p : Pg) : (kvW S p p.nodes).map (fun kv => D.tup (kv.1.map ofKey)) = p.nodes.map fun t => eW t.1 := by
  unfold kvW
  rw [List.map_map]
  apply List.map_congr_left
  intro t _
  simp [kW, eW, ofKey, eB, Function.comp_def]
theorem wayW_eqlen (S : Stg) : ∀ (p q : Pg) (w : List Bool), p.at w = some q → (wayW S p w).length = w.length
  | p, q, [], _ => by cases p <;> rfl
  | .tell _, q, _ :: _, h => by cases h
  | .look _ _ y n, q, b :: w, h => by simp only [wayW, List.length_cons, wayW_eqlen S (if b then y else n) q w h]
theorem leaves_nodes : ∀ (p : Pg) (l : List Bool × Str), l ∈ p.leaves → (l.1, Pg.tell l.2) ∈ p.nodes
  | .tell w, l, h => by simp [Pg.leaves] at h; subst h; simp [Pg.nodes]
  | .look _ _ y n, l, h => by
    simp only [Pg.leaves, List.mem_append, List.mem_map] at h
    simp only [Pg.nodes, List.mem_cons, List.mem_append, List.mem_map]
    rcases h with ⟨m, hm, rfl⟩ | ⟨m, hm, rfl⟩
    · exact .inr (.inl ⟨_, leaves_nodes y m hm, rfl⟩)
    · exact .inr (.inr ⟨_, leaves_nodes n m hm, rfl⟩)

/-! one way asked -/
theorem turn26 {k : Nat} (hk : 26 ≤ k) {S : Stg} (hS : S.ok) {p : Pg} (hp : p.ok S) (hz : p.sz ≤ 40) (L : Lp) (rest junk : Sto) (b : Nat) {t : List Bool × Pg} (ht : t ∈ p.nodes) (x4 x5 x6 x8 x9 x10 x11 : Option D) :
    ∃ y6 y8 y9 y10 y11, exSs ⟨run PD 200 k, 200, b⟩ b26_1 [some (.obj 2), some S.d, some p.d, some (.obj (rest.length + 3)), x4, x5, x6, some (eW t.1), x8, x9, x10, x11, none] (L.sto (rest ++ some (.fT (kvW S p p.nodes)) :: junk)) =
      some (.nx [some (.obj 2), some S.d, some p.d, some (.obj (rest.length + 3)), x4, x5, y6, some (eW t.1), y8, y9, y10, y11, none] (L.sto (rest ++ some (.fT (kvW S p p.nodes)) :: junk))) := by
  obtain ⟨w, q⟩ := t
  have hat := nodes_at p _ ht
  have hq := ok_at p q w hp hat
  have hlen := len_at p q w hat
  have hdep := dep_sz p
  have hOk := okB_way p _ w (okB_full hS)
  have e0 : ∀ s : Sto, dLook (L.sto (rest ++ some (.fT (kvW S p p.nodes)) :: junk)) (.obj (rest.length + 3)) (eW w) = some (some (vW S p (w, q))) := fun _ => by
    simp [dLook, eW, toKeys_W]
    exact look_ways ht
  have e8 := c8 hS (k := k) (by omega) hp (w := w) (by omega) hat b
  have e3 := c3 (k := k) (by omega) p q w hat b
  have e13 := c13 hS (k := k) (by omega) hp hat b
  have hT : Gd (.tup [wwD S p w, q.d, obD (oB S p w)]) (q.dep + 3) := gd3 ((gd_ww S p (by omega)).mono (by omega)) (gd_pg q hq) ((gd_ob hS hOk).mono (by omega))
  have e16 := same hT (k := k) (by omega) b
  have s1 : exS ⟨run PD 200 k, 200, b⟩ (.asg (.tup (Gs.of [(.name 8), (.name 9), (.name 10)])) (.dget (.var 3) (.var 7))) [some (.obj 2), some S.d, some p.d, some (.obj (rest.length + 3)), x4, x5, x6, some (eW w), x8, x9, x10, x11, none] (L.sto (rest ++ some (.fT (kvW S p p.nodes)) :: junk)) =
      some (.nx [some (.obj 2), some S.d, some p.d, some (.obj (rest.length + 3)), x4, x5, x6, some (eW w), some q.d, some (wwD S p w), some (obD (oB S p w)), x11, none] (L.sto (rest ++ some (.fT (kvW S p p.nodes)) :: junk))) := by
    simp [e0 [], Gs.of, vW, asgG, asgGs]
  have s2 : exS ⟨run PD 200 k, 200, b⟩ (.asg (.name 6) (.tup (Es.of [(.call true 8 (Es.of [(.var 1), (.var 2), (.var 7)])), (.call true 3 (Es.of [(.var 2), (.var 7)])), (.callK true 13 [2, 1, 0] .nil (Es.of [(.var 7), (.var 2), (.var 1)]))]))) [some (.obj 2), some S.d, some p.d, some (.obj (rest.length + 3)), x4, x5, x6, some (eW w), some q.d, some (wwD S p w), some (obD (oB S p w)), x11, none] (L.sto (rest ++ some (.fT (kvW S p p.nodes)) :: junk)) =
      some (.nx [some (.obj 2), some S.d, some p.d, some (.obj (rest.length + 3)), x4, x5, some (.tup [wwD S p w, q.d, obD (oB S p w)]), some (eW w), some q.d, some (wwD S p w), some (obD (oB S p w)), x11, none] (L.sto (rest ++ some (.fT (kvW S p p.nodes)) :: junk))) := by
    have e13' : ∀ s, Cc.run ⟨run PD 200 k, 200, b⟩ true 13 [S.d, p.d, eW w] s = some (obD (oB S p w), s) := e13
    simp [Es.of, Es.n, permL, e8, e3, e13', asgG, ZL]
  have s3 : exS ⟨run PD 200 k, 200, b⟩ (.ife (.not (.tru (.call true 16 (Es.of [(.var 6), (.tup (Es.of [(.var 9), (.var 8), (.var 10)]))])))) (.cons (.ret (.bl false)) (.nil)) (.nil)) [some (.obj 2), some S.d, some p.d, some (.obj (rest.length + 3)), x4, x5, some (.tup [wwD S p w, q.d, obD (oB S p w)]), some (eW w), some q.d, some (wwD S p w), some (obD (oB S p w)), x11, none] (L.sto (rest ++ some (.fT (kvW S p p.nodes)) :: junk)) =
      some (.nx [some (.obj 2), some S.d, some p.d, some (.obj (rest.length + 3)), x4, x5, some (.tup [wwD S p w, q.d, obD (oB S p w)]), some (eW w), some q.d, some (wwD S p w), some (obD (oB S p w)), x11, none] (L.sto (rest ++ some (.fT (kvW S p p.nodes)) :: junk))) := by
    simp [Es.of, e16, ZL]
  have s4 : exS ⟨run PD 200 k, 200, b⟩ (.ife (.and (.val (.cmp .notN (.var 10) .non)) (.not (.tru (.call true 16 (Es.of [(.call true 10 (Es.of [(.var 1), (.var 10)])), (.call true 25 (Es.of [(.var 1), (.var 10)]))]))))) (.cons (.ret (.bl false)) (.nil)) (.nil)) [some (.obj 2), some S.d, some p.d, some (.obj (rest.length + 3)), x4, x5, some (.tup [wwD S p w, q.d, obD (oB S p w)]), some (eW w), some q.d, some (wwD S p w), some (obD (oB S p w)), x11, none] (L.sto (rest ++ some (.fT (kvW S p p.nodes)) :: junk)) =
      some (.nx [some (.obj 2), some S.d, some p.d, some (.obj (rest.length + 3)), x4, x5, some (.tup [wwD S p w, q.d, obD (oB S p w)]), some (eW w), some q.d, some (wwD S p w), some (obD (oB S p w)), x11, none] (L.sto (rest ++ some (.fT (kvW S p p.nodes)) :: junk))) := by
    cases ho : oB S p w with
    | none => simp [obD, evCmp]
    | some box =>
      have hbo := (hOk.ok box ho).1
      have e10 := c10 hS (k := k) (by omega) hbo b
      have e25 := c25 hS (k := k) (by omega) hbo b
      have e16b := same (gd_bw hS box) (k := k) (by omega) b
      have : evCmp .notN (bxD box) .non = some true := rfl
      simp [Es.of, obD, this, e10, e25, e16b]
  cases q with
  | tell word =>
    refine ⟨some (.tup [wwD S p w, (Pg.tell word).d, obD (oB S p w)]), some (Pg.tell word).d, some (wwD S p w), some (obD (oB S p w)), x11, ?_⟩
    · unfold b26_1
      rw [seq_nx s1, seq_nx s2, seq_nx s3, seq_nx s4]
      rw [exSs_cons, ife_f (s1 := L.sto (rest ++ some (.fT (kvW S p p.nodes)) :: junk)) (by simp)]
      rfl
  | look pl ms y n =>
    simp only [Pg.ok] at hq
    have e7 := fun c => c7 hS (k := k) (by omega) hq.1 hq.2.2.1 hq.2.2.2.1 c b
    have e22 := fun c => c22 hS (k := k) (by omega) hq.1 hq.2.2.1 hq.2.2.2.1 c b
    have et := e7 true; have ef := e7 false; have ut := e22 true; have uf := e22 false
    rw [show eB true = .int 1 from rfl] at et ut
    rw [show eB false = .int 0 from rfl] at ef uf
    have hB : Gd (.tup [.str (lookW S pl ms true), .str (lookW S pl ms false)]) 1 := gd2 (gd_str _) (gd_str _)
    have e16b := same hB (k := k) (by omega) b
    have hsl : slcD (Pg.look pl ms y n).d (some 1) (some 3) = some (.tup [.int pl, eM ms]) := by simp [slcD, Pg.d, cutD, HT.sIx]
    refine ⟨some (.tup [wwD S p w, (Pg.look pl ms y n).d, obD (oB S p w)]), some (Pg.look pl ms y n).d, some (wwD S p w), some (obD (oB S p w)), some (.tup [.str (lookW S pl ms true), .str (lookW S pl ms false)]), ?_⟩
    · unfold b26_1
      rw [seq_nx s1, seq_nx s2, seq_nx s3, seq_nx s4]
      rw [exSs_cons, ife_t (s1 := L.sto (rest ++ some (.fT (kvW S p p.nodes)) :: junk)) (by simp)]
      rw [seq_nx (e1 := [some (.obj 2), some S.d, some p.d, some (.obj (rest.length + 3)), x4, x5, some (.tup [wwD S p w, (Pg.look pl ms y n).d, obD (oB S p w)]), some (eW w), some (Pg.look pl ms y n).d, some (wwD S p w), some (obD (oB S p w)), some (.tup [.str (lookW S pl ms true), .str (lookW S pl ms false)]), none]) (s1 := L.sto (rest ++ some (.fT (kvW S p p.nodes)) :: junk)) (by
        simp [Es.of, Es.n, permL, et, ef, asgG, ZL])]
      rw [seq_nx (e1 := [some (.obj 2), some S.d, some p.d, some (.obj (rest.length + 3)), x4, x5, some (.tup [wwD S p w, (Pg.look pl ms y n).d, obD (oB S p w)]), some (eW w), some (Pg.look pl ms y n).d, some (wwD S p w), some (obD (oB S p w)), some (.tup [.str (lookW S pl ms true), .str (lookW S pl ms false)]), none]) (s1 := L.sto (rest ++ some (.fT (kvW S p p.nodes)) :: junk)) (by
        simp [Es.of, hsl, ut, uf, e16b, ZL])]
      rfl
end K92

/-! K92, mathematics 15: all is asked; the law. -/
namespace K92
open PySem Fw
theorem due26 {S : Stg} (hS : S.ok) {p : Pg} (hp : p.ok S) (hz : p.sz ≤ 40) (k b : Nat) (L : Lp) (rest junk : Sto) (x4 : D) :
    srcGo (lcF ⟨run PD 200 k, 200, b⟩ [some (.obj 2), some S.d, some p.d, some (.obj (rest.length + 3)), some x4, none, none, none, none, none, none, none, none] (.tup (Gs.of [.name 7, .name 12])) .yes b26_2 [7, 12]) (.vals (p.leaves.map eL)) (L.sto (rest ++ some (.dT (kvW S p p.nodes)) :: junk)) =
      some (p.leaves.map (fun l => .str (lineW S p l)), L.sto (rest ++ some (.dT (kvW S p p.nodes)) :: junk)) := by
  have hdep := dep_sz p
  refine lc_map eL (fun l => .str (lineW S p l)) p.leaves (by have := p.leaves_len; omega) fun l hl => ?_
  obtain ⟨w, word⟩ := l
  have hat := leaves_at p _ hl
  have hle : w.length ≤ p.dep := p.leaves_dep _ hl
  have how := ok_at _ _ _ hp hat
  simp only [Pg.ok] at how
  have hlk := look_ways (S := S) (leaves_nodes p _ hl)
  have hwl : (wayW S p w).length = w.length := wayW_eqlen S p _ w hat
  have f := and_fit (n := 0) (wayW_in hS p w hp) (show (wayW S p w).length ≤ 500 by omega)
  have a := Nat.le_trans (join_len " and " (wayW S p w)) f
  have e1 := fun s => joinS " and " (wayW S p w) s (Nat.le_trans f (by decide))
  have c1 : (Str.ofString " if ").length = 4 := by decide +kernel
  have c2 : (Str.ofString " always").length = 7 := by decide +kernel
  have e2 := addS " if " (Txt.join " and " (wayW S p w)) (by rw [c1]; omega)
  have e3 := addS word (" if " ++ Txt.join " and " (wayW S p w)) (by rw [Str.length_append, c1]; omega)
  have e4 := addS word " always" (by rw [c2]; omega)
  have e5 : ∀ s, lenD s (eW w) = some w.length := fun s => by simp [eW, lenD]
  have e6 : dLook (L.sto (rest ++ some (.dT (kvW S p p.nodes)) :: junk)) (.obj (rest.length + 3)) (eW w) = some (some (vW S p (w, .tell word))) := by
    simp [dLook, eW, toKeys_W]
    exact hlk
  have e7 : ∀ s, atD s (vW S p (w, .tell word)) (.int 1) = some (.lst ((wayW S p w).map .str)) := fun s => rfl
  by_cases h : 0 < w.length
  · have h' : (0 : Int) < (w.length : Int) := by omega
    have hne : (wayW S p w).isEmpty = false := by
      cases hw : wayW S p w with
      | nil => rw [hw] at hwl; simp at hwl; omega
      | cons _ _ => rfl
    simp [lcF, Gs.of, asgG, asgGs, eL, wipeD, b26_2, evB1, e5, h, e6, e7, e1, e2, e3, lineW, andW, hne]
  · have hw0 : w = [] := by
      cases w with
      | nil => rfl
      | cons _ _ => simp at h
    subst hw0
    have hne : (wayW S p []).isEmpty = true := by cases p <;> rfl
    simp [lcF, Gs.of, asgG, asgGs, eL, wipeD, b26_2, evB1, e5, e4, lineW, andW, hne]
theorem forE_plain {C : Cc} {env : En} {s : Sto} {g : G} {b : Ss} {α : Type} (en : α → D) (I : En → Prop) (l : List α) (h0 : I env)
    (step : ∀ x ∈ l, ∀ env, I env → ∃ e1 e2, asgG g (en x) env = some e1 ∧ exSs C b e1 s = some (.nx e2 s) ∧ I e2) :
    ∃ env', forE C g b (l.map en) env s = some (.nx env' s) ∧ I env' := by
  obtain ⟨env', s', h1, rfl, h2⟩ := forE_inv (C := C) (g := g) (b := b) (env := env) (s := s) en (fun _ e s' => s' = s ∧ I e) l ⟨rfl, h0⟩ fun p x q e s' hl ⟨h1, h2⟩ => by
    subst h1
    obtain ⟨e1, e2, a, b, c⟩ := step x (by rw [hl]; simp) e h2
    exact ⟨e1, e2, _, a, b, rfl, c⟩
  exact ⟨env', h1, h2⟩
theorem c26 {k : Nat} (hk : 27 ≤ k) {S : Stg} (hS : S.ok) {p : Pg} (hp : p.ok S) (hz : p.sz ≤ 40) {L : Lp} (hL : L.ok) (rest : Sto) :
    ∃ (L' : Lp) (more : Sto), run PD 200 k 26 [.obj 2, S.d, p.d] (L.sto rest) = some (.bl true, L'.sto (rest ++ more)) ∧ L'.ok := by
  obtain ⟨k, rfl⟩ := Nat.exists_eq_add_of_le' (show 1 ≤ k by omega)
  have hdep := dep_sz p
  obtain ⟨junk, e23⟩ := c23 (k := k) (by omega) hS hp (by omega) L rest
  have e20 := c20 (k := k) (by omega) (p := p) (by omega) (L.sto rest).length
  have e21 := c21 (k := k) (by omega) (p := p) (by omega) (L.sto rest).length
  have e9 := c9 hS (k := k) (p := p) (by omega) hp (by omega) (L.sto rest).length
  have e4 := c4 p (k := k) (by omega) (by omega) (L.sto rest).length
  have e5 := c5 p (k := k) (by omega) (by omega) (L.sto rest).length
  have hT : Gd (.tup [iwD S p, lvD p, loD p]) 4 := gd3 ((gd_iw S (by omega)).mono (by omega)) (gd_lv (by omega)) (gd_lo hp (by omega))
  have e16 := same hT (k := k) (by omega) (L.sto rest).length
  have edue := due26 hS hp hz k (L.sto rest).length L rest junk (.lst (p.leaves.map eL))
  obtain ⟨env', hfor, y6, y7, y8, y9, y10, y11, rfl⟩ := forE_plain (C := ⟨run PD 200 k, 200, (L.sto rest).length⟩) (g := .name 7) (b := b26_1) (env := [some (.obj 2), some S.d, some p.d, some (.obj (rest.length + 3)), some (.lst (p.leaves.map eL)), some (iwD S p), some (.tup [iwD S p, lvD p, loD p]), none, none, none, none, none, none]) (s := L.sto (rest ++ some (.fT (kvW S p p.nodes)) :: junk)) (fun t : List Bool × Pg => eW t.1)
    (fun env => ∃ y6 y7 y8 y9 y10 y11, env = [some (.obj 2), some S.d, some p.d, some (.obj (rest.length + 3)), some (.lst (p.leaves.map eL)), some (iwD S p), y6, y7, y8, y9, y10, y11, none]) p.nodes ⟨_, _, _, _, _, _, rfl⟩ (by
      rintro t ht _ ⟨y6, y7, y8, y9, y10, y11, rfl⟩
      obtain ⟨z6, z8, z9, z10, z11, e⟩ := turn26 (k := k) (by omega) hS hp hz L rest junk (L.sto rest).length ht (some (.lst (p.leaves.map eL))) (some (iwD S p)) y6 y8 y9 y10 y11
      exact ⟨_, _, rfl, e, _, _, _, _, _, _, rfl⟩)
  obtain ⟨box, L2, more, e24, hL2, hbx⟩ := c24 (k := k) (by omega) hS hL (rest ++ some (.fT (kvW S p p.nodes)) :: junk)
  have e10 := c10 hS (k := k) (by omega) hbx (L.sto rest).length
  have e25 := c25 hS (k := k) (by omega) hbx (L.sto rest).length
  have e16b := same (gd_bw hS box) (k := k) (by omega) (L.sto rest).length
  refine ⟨L2, some (.fT (kvW S p p.nodes)) :: junk ++ more, ?_, hL2⟩
  rw [run26]
  refine go_rt rfl ?_
  show exSs _ b26 [some (.obj 2), some S.d, some p.d, none, none, none, none, none, none, none, none, none, none] _ = _
  unfold b26
  rw [seq_nx (e1 := [some (.obj 2), some S.d, some p.d, some (.obj (rest.length + 3)), some (.lst (p.leaves.map eL)), none, none, none, none, none, none, none, none]) (s1 := L.sto (rest ++ some (.dT (kvW S p p.nodes)) :: junk)) (by
    rw [sto_len] at e20
    simp [Es.of, Gs.of, asgG, asgGs, e23, e20, ZL])]
  rw [seq_nx (e1 := [some (.obj 2), some S.d, some p.d, some (.obj (rest.length + 3)), some (.lst (p.leaves.map eL)), some (iwD S p), none, none, none, none, none, none, none]) (s1 := L.sto (rest ++ some (.dT (kvW S p p.nodes)) :: junk)) (by
    rw [sto_len] at edue
    simp [asgG, edue, iwD])]
  rw [seq_nx (e1 := [some (.obj 2), some S.d, some p.d, some (.obj (rest.length + 3)), some (.lst (p.leaves.map eL)), some (iwD S p), some (.tup [iwD S p, lvD p, loD p]), none, none, none, none, none, none]) (s1 := L.sto (rest ++ some (.dT (kvW S p p.nodes)) :: junk)) (by
    rw [sto_len] at e9 e4 e5
    simp [Es.of, asgG, e9, e4, e5, ZL])]
  rw [seq_nx (e1 := [some (.obj 2), some S.d, some p.d, some (.obj (rest.length + 3)), some (.lst (p.leaves.map eL)), some (iwD S p), some (.tup [iwD S p, lvD p, loD p]), none, none, none, none, none, none]) (s1 := L.sto (rest ++ some (.dT (kvW S p p.nodes)) :: junk)) (by
    rw [sto_len] at e21 e16
    have g1 : (.tup (p.leaves.map eL) : D) = lvD p := rfl
    have g2 : (.tup (p.looks.map eK) : D) = loD p := rfl
    simp [Es.of, e21, evB1, listD, g1, g2, e16, ZL])]
  rw [seq_nx (e1 := [some (.obj 2), some S.d, some p.d, some (.obj (rest.length + 3)), some (.lst (p.leaves.map eL)), some (iwD S p), y6, y7, y8, y9, y10, y11, none]) (s1 := L.sto (rest ++ some (.fT (kvW S p p.nodes)) :: junk)) (by
    rw [sto_len] at hfor
    have := keys_ways S p
    simp [keySrc, this, hfor])]
  rw [seq_nx (e1 := [some (.obj 2), some S.d, some p.d, some (.obj (rest.length + 3)), some (.lst (p.leaves.map eL)), some (iwD S p), y6, y7, y8, y9, some (bxD box), y11, none]) (s1 := L2.sto (rest ++ some (.fT (kvW S p p.nodes)) :: junk ++ more)) (by
    simp [Es.of, asgG, e24])]
  rw [sto_len] at e10 e25 e16b
  simp [Es.of, Es.n, permL, e10, e25, e16b]
end K92

/-! K92, mathematics 16: the law. -/
namespace K92
open PySem Fw
def yesT (r : Option (D × Sto)) : Bool := match r with
  | some (.bl true, _) => true
  | _ => false
theorem yesT_of {r : Option (D × Sto)} (h : yesT r = true) : ∃ s, r = some (.bl true, s) := by
  unfold yesT at h
  split at h
  · exact ⟨_, rfl⟩
  · cases h
theorem hand : yesT (run PD 200 29 27 [] []) = true := by decide +kernel
theorem law_at {k : Nat} (hk : 29 ≤ k) (hh : ∃ sh, run PD 200 k 27 [] [] = some (.bl true, sh)) (ns : List Int) (hn : ns.length ≤ 63) : ∃ s', run PD 200 (k + 1) 28 [.scr ns] [] = some (.bl true, s') := by
  obtain ⟨L0, hL0, e14⟩ := c14 (k := k) (by omega) ns hn
  obtain ⟨sh, eh⟩ := hh
  have e27 := pure_call (fn := run PD 200 k) (wf := 200) (i := 27) (ds := []) (d := .bl true) rfl eh rfl 0
  obtain ⟨env', s', h1, L', rest, x2, x3, rfl, rfl, hL'⟩ := forE_inv (C := ⟨run PD 200 k, 200, 0⟩) (g := .name 2) (b := b28_1) (env := [some (.scr ns), some (.obj 2), none, none]) (s := L0.sto []) eN
    (fun _ env s => ∃ L' rest x2 x3, env = [some (.scr ns), some (.obj 2), x2, x3] ∧ s = Lp.sto L' rest ∧ L'.ok) (List.range 3) ⟨L0, [], none, none, rfl, rfl, hL0⟩ (by
      rintro pre y post _ _ hl ⟨L, rest, x2, x3, rfl, rfl, hL⟩
      have hy : y < 3 := by
        have : y ∈ List.range 3 := by rw [hl]; simp
        exact List.mem_range.mp this
      obtain ⟨S, L1, more1, e17, hL1, hS⟩ := c17 (k := k) (by omega) hL rest
      obtain ⟨M, hM1, hM2, hM⟩ : ∃ M : Nat, 1 ≤ M ∧ M ≤ 17 ∧ ∀ s, atD s (.tup [.int 17, .int 9, .int 3]) (eN y) = some (.int M) := by
        rcases (show y = 0 ∨ y = 1 ∨ y = 2 by omega) with rfl | rfl | rfl
        · exact ⟨17, by decide, by decide, fun _ => rfl⟩
        · exact ⟨9, by decide, by decide, fun _ => rfl⟩
        · exact ⟨3, by decide, by decide, fun _ => rfl⟩
      obtain ⟨r, L2, e15, hL2, hr⟩ := c15 (k := k) (by omega) hL1 (rest ++ more1) (pl := "looks") (by simp [plN]) (many := M) (by omega)
      obtain ⟨p, L3, more3, e18, hL3, hp, hz⟩ := c18 (k := k) (by omega) hS (looks := r) (by omega) hL2 (rest ++ more1)
      obtain ⟨L4, more4, e26, hL4⟩ := c26 (k := k) (by omega) hS hp hz hL3 (rest ++ more1 ++ more3)
      refine ⟨_, [some (.scr ns), some (.obj 2), some (eN y), some S.d], L4.sto (rest ++ more1 ++ more3 ++ more4), rfl, ?_, L4, _, _, _, rfl, rfl, hL4⟩
      unfold b28_1
      rw [seq_nx (e1 := [some (.scr ns), some (.obj 2), some (eN y), some S.d]) (s1 := L1.sto (rest ++ more1)) (by simp [Es.of, asgG, e17])]
      rw [seq_nx (e1 := [some (.scr ns), some (.obj 2), some (eN y), some S.d]) (s1 := L4.sto (rest ++ more1 ++ more3 ++ more4)) (by
        simp [Es.of, hM, e15, ZL]
        simp only [List.append_assoc] at e18 e26
        simp [e18, e26])]
      rfl)
  refine ⟨L'.sto rest, ?_⟩
  rw [run28]
  refine go_rt rfl ?_
  show exSs _ b28 [some (.scr ns), none, none, none] _ = _
  unfold b28
  rw [seq_nx (e1 := [some (.scr ns), some (.obj 2), none, none]) (s1 := L0.sto []) (by simp [Es.of, asgG, e14])]
  rw [seq_nx (e1 := [some (.scr ns), some (.obj 2), none, none]) (s1 := L0.sto []) (by simp [e27])]
  rw [seq_nx (e1 := [some (.scr ns), some (.obj 2), x2, x3]) (s1 := L'.sto rest) (by
    have : rgD 3 = (List.range 3).map eN := rfl
    simp [this, ZL]
    exact h1)]
  simp
theorem law (ns : List Int) (hn : ns.length ≤ 63) : ∃ s', run PD 200 (29 + 1) 28 [.scr ns] [] = some (.bl true, s') := law_at (Nat.le_refl _) (yesT_of hand) ns hn
end K92

namespace K92
open PySem PySem.Spec PyProof.Rows L2 Fw
theorem all_mk {l : PySem.W.OpenLaw} {w : World} {K : PySem.W.Frag} {h : Heap} {mg : Str → Option Value} {fa : Addr} (X : K.In h) (G : h.Ns mainGlobals mg) (hfa : mg "law" = some (.ref fa))
    {f0 : Addr} {od0 an0 : Option Addr} {sl0 : Array (Option Value)} {oc0 kV0 dc0 pm0 cd0 ct0 : Value}
    (a0 : PySem.W.nsIn K mainGlobals "is_integer" = some (some (.ref f0))) (l0 : K.lookup f0 = some ⟨oc0, od0, .func (PySem.W.fnOf "is_integer" "is_integer" (defArgs tp0) (defBody tp0) (defScope tp0) .none kV0 dc0 pm0 an0 cd0 ct0), sl0⟩) (c0 : PySem.W.codeIn K cd0 "is_integer" = true) (k0 : PySem.W.keepIn K (.ref f0) = true)
    {f1 : Addr} {od1 an1 : Option Addr} {sl1 : Array (Option Value)} {oc1 kV1 dc1 pm1 cd1 ct1 : Value}
    (a1 : PySem.W.nsIn K mainGlobals "integer_within" = some (some (.ref f1))) (l1 : K.lookup f1 = some ⟨oc1, od1, .func (PySem.W.fnOf "integer_within" "integer_within" (defArgs tp1) (defBody tp1) (defScope tp1) .none kV1 dc1 pm1 an1 cd1 ct1), sl1⟩) (c1 : PySem.W.codeIn K cd1 "integer_within" = true) (k1 : PySem.W.keepIn K (.ref f1) = true)
    {f2 : Addr} {od2 an2 : Option Addr} {sl2 : Array (Option Value)} {oc2 kV2 dc2 pm2 cd2 ct2 : Value}
    (a2 : PySem.W.nsIn K mainGlobals "side" = some (some (.ref f2))) (l2 : K.lookup f2 = some ⟨oc2, od2, .func (PySem.W.fnOf "side" "side" (defArgs tp2) (defBody tp2) (defScope tp2) .none kV2 dc2 pm2 an2 cd2 ct2), sl2⟩) (c2 : PySem.W.codeIn K cd2 "side" = true) (k2 : PySem.W.keepIn K (.ref f2) = true)
    {f3 : Addr} {od3 an3 : Option Addr} {sl3 : Array (Option Value)} {oc3 kV3 dc3 pm3 cd3 ct3 : Value}
    (a3 : PySem.W.nsIn K mainGlobals "part_at" = some (some (.ref f3))) (l3 : K.lookup f3 = some ⟨oc3, od3, .func (PySem.W.fnOf "part_at" "part_at" (defArgs tp3) (defBody tp3) (defScope tp3) .none kV3 dc3 pm3 an3 cd3 ct3), sl3⟩) (c3 : PySem.W.codeIn K cd3 "part_at" = true) (k3 : PySem.W.keepIn K (.ref f3) = true)
    {f4 : Addr} {od4 an4 : Option Addr} {sl4 : Array (Option Value)} {oc4 kV4 dc4 pm4 cd4 ct4 : Value}
    (a4 : PySem.W.nsIn K mainGlobals "leaves_of" = some (some (.ref f4))) (l4 : K.lookup f4 = some ⟨oc4, od4, .func (PySem.W.fnOf "leaves_of" "leaves_of" (defArgs tp4) (defBody tp4) (defScope tp4) .none kV4 dc4 pm4 an4 cd4 ct4), sl4⟩) (c4 : PySem.W.codeIn K cd4 "leaves_of" = true) (k4 : PySem.W.keepIn K (.ref f4) = true)
    {f5 : Addr} {od5 an5 : Option Addr} {sl5 : Array (Option Value)} {oc5 kV5 dc5 pm5 cd5 ct5 : Value}
    (a5 : PySem.W.nsIn K mainGlobals "looks_of" = some (some (.ref f5))) (l5 : K.lookup f5 = some ⟨oc5, od5, .func (PySem.W.fnOf "looks_of" "looks_of" (defArgs tp5) (defBody tp5) (defScope tp5) .none kV5 dc5 pm5 an5 cd5 ct5), sl5⟩) (c5 : PySem.W.codeIn K cd5 "looks_of" = true) (k5 : PySem.W.keepIn K (.ref f5) = true)
    {f6 : Addr} {od6 an6 : Option Addr} {sl6 : Array (Option Value)} {oc6 kV6 dc6 pm6 cd6 ct6 : Value}
    (a6 : PySem.W.nsIn K mainGlobals "names_of" = some (some (.ref f6))) (l6 : K.lookup f6 = some ⟨oc6, od6, .func (PySem.W.fnOf "names_of" "names_of" (defArgs tp6) (defBody tp6) (defScope tp6) .none kV6 dc6 pm6 an6 cd6 ct6), sl6⟩) (c6 : PySem.W.codeIn K cd6 "names_of" = true) (k6 : PySem.W.keepIn K (.ref f6) = true)
    {f7 : Addr} {od7 an7 : Option Addr} {sl7 : Array (Option Value)} {oc7 kV7 dc7 pm7 cd7 ct7 : Value}
    (a7 : PySem.W.nsIn K mainGlobals "look_in_words" = some (some (.ref f7))) (l7 : K.lookup f7 = some ⟨oc7, od7, .func (PySem.W.fnOf "look_in_words" "look_in_words" (defArgs tp7) (defBody tp7) (defScope tp7) .none kV7 dc7 pm7 an7 cd7 ct7), sl7⟩) (c7 : PySem.W.codeIn K cd7 "look_in_words" = true) (k7 : PySem.W.keepIn K (.ref f7) = true)
    {f8 : Addr} {od8 an8 : Option Addr} {sl8 : Array (Option Value)} {oc8 kV8 dc8 pm8 cd8 ct8 : Value}
    (a8 : PySem.W.nsIn K mainGlobals "way_words" = some (some (.ref f8))) (l8 : K.lookup f8 = some ⟨oc8, od8, .func (PySem.W.fnOf "way_words" "way_words" (defArgs tp8) (defBody tp8) (defScope tp8) .none kV8 dc8 pm8 an8 cd8 ct8), sl8⟩) (c8 : PySem.W.codeIn K cd8 "way_words" = true) (k8 : PySem.W.keepIn K (.ref f8) = true)
    {f9 : Addr} {od9 an9 : Option Addr} {sl9 : Array (Option Value)} {oc9 kV9 dc9 pm9 cd9 ct9 : Value}
    (a9 : PySem.W.nsIn K mainGlobals "in_words" = some (some (.ref f9))) (l9 : K.lookup f9 = some ⟨oc9, od9, .func (PySem.W.fnOf "in_words" "in_words" (defArgs tp9) (defBody tp9) (defScope tp9) .none kV9 dc9 pm9 an9 cd9 ct9), sl9⟩) (c9 : PySem.W.codeIn K cd9 "in_words" = true) (k9 : PySem.W.keepIn K (.ref f9) = true)
    {f10 : Addr} {od10 an10 : Option Addr} {sl10 : Array (Option Value)} {oc10 kV10 dc10 pm10 cd10 ct10 : Value}
    (a10 : PySem.W.nsIn K mainGlobals "box_words" = some (some (.ref f10))) (l10 : K.lookup f10 = some ⟨oc10, od10, .func (PySem.W.fnOf "box_words" "box_words" (defArgs tp10) (defBody tp10) (defScope tp10) .none kV10 dc10 pm10 an10 cd10 ct10), sl10⟩) (c10 : PySem.W.codeIn K cd10 "box_words" = true) (k10 : PySem.W.keepIn K (.ref f10) = true)
    {f11 : Addr} {od11 an11 : Option Addr} {sl11 : Array (Option Value)} {oc11 kV11 dc11 pm11 cd11 ct11 : Value}
    (a11 : PySem.W.nsIn K mainGlobals "full_box" = some (some (.ref f11))) (l11 : K.lookup f11 = some ⟨oc11, od11, .func (PySem.W.fnOf "full_box" "full_box" (defArgs tp11) (defBody tp11) (defScope tp11) .none kV11 dc11 pm11 an11 cd11 ct11), sl11⟩) (c11 : PySem.W.codeIn K cd11 "full_box" = true) (k11 : PySem.W.keepIn K (.ref f11) = true)
    {f12 : Addr} {od12 an12 : Option Addr} {sl12 : Array (Option Value)} {oc12 kV12 dc12 pm12 cd12 ct12 : Value}
    (a12 : PySem.W.nsIn K mainGlobals "narrowed" = some (some (.ref f12))) (l12 : K.lookup f12 = some ⟨oc12, od12, .func (PySem.W.fnOf "narrowed" "narrowed" (defArgs tp12) (defBody tp12) (defScope tp12) .none kV12 dc12 pm12 an12 cd12 ct12), sl12⟩) (c12 : PySem.W.codeIn K cd12 "narrowed" = true) (k12 : PySem.W.keepIn K (.ref f12) = true)
    {f13 : Addr} {od13 an13 : Option Addr} {sl13 : Array (Option Value)} {oc13 kV13 dc13 pm13 cd13 ct13 : Value}
    (a13 : PySem.W.nsIn K mainGlobals "way_box" = some (some (.ref f13))) (l13 : K.lookup f13 = some ⟨oc13, od13, .func (PySem.W.fnOf "way_box" "way_box" (defArgs tp13) (defBody tp13) (defScope tp13) .none kV13 dc13 pm13 an13 cd13 ct13), sl13⟩) (c13 : PySem.W.codeIn K cd13 "way_box" = true) (k13 : PySem.W.keepIn K (.ref f13) = true)
    {f14 : Addr} {od14 an14 : Option Addr} {sl14 : Array (Option Value)} {oc14 kV14 dc14 pm14 cd14 ct14 : Value}
    (a14 : PySem.W.nsIn K mainGlobals "_law_lamp" = some (some (.ref f14))) (l14 : K.lookup f14 = some ⟨oc14, od14, .func (PySem.W.fnOf "_law_lamp" "_law_lamp" (defArgs tp14) (defBody tp14) (defScope tp14) .none kV14 dc14 pm14 an14 cd14 ct14), sl14⟩) (c14 : PySem.W.codeIn K cd14 "_law_lamp" = true) (k14 : PySem.W.keepIn K (.ref f14) = true)
    {f15 : Addr} {od15 an15 : Option Addr} {sl15 : Array (Option Value)} {oc15 kV15 dc15 pm15 cd15 ct15 : Value}
    (a15 : PySem.W.nsIn K mainGlobals "_law_take" = some (some (.ref f15))) (l15 : K.lookup f15 = some ⟨oc15, od15, .func (PySem.W.fnOf "_law_take" "_law_take" (defArgs tp15) (defBody tp15) (defScope tp15) .none kV15 dc15 pm15 an15 cd15 ct15), sl15⟩) (c15 : PySem.W.codeIn K cd15 "_law_take" = true) (k15 : PySem.W.keepIn K (.ref f15) = true)
    {f16 : Addr} {od16 an16 : Option Addr} {sl16 : Array (Option Value)} {oc16 kV16 dc16 pm16 cd16 ct16 : Value}
    (a16 : PySem.W.nsIn K mainGlobals "_law_same" = some (some (.ref f16))) (l16 : K.lookup f16 = some ⟨oc16, od16, .func (PySem.W.fnOf "_law_same" "_law_same" (defArgs tp16) (defBody tp16) (defScope tp16) .none kV16 dc16 pm16 an16 cd16 ct16), sl16⟩) (c16 : PySem.W.codeIn K cd16 "_law_same" = true) (k16 : PySem.W.keepIn K (.ref f16) = true)
    {f17 : Addr} {od17 an17 : Option Addr} {sl17 : Array (Option Value)} {oc17 kV17 dc17 pm17 cd17 ct17 : Value}
    (a17 : PySem.W.nsIn K mainGlobals "_law_setting" = some (some (.ref f17))) (l17 : K.lookup f17 = some ⟨oc17, od17, .func (PySem.W.fnOf "_law_setting" "_law_setting" (defArgs tp17) (defBody tp17) (defScope tp17) .none kV17 dc17 pm17 an17 cd17 ct17), sl17⟩) (c17 : PySem.W.codeIn K cd17 "_law_setting" = true) (k17 : PySem.W.keepIn K (.ref f17) = true)
    {f18 : Addr} {od18 an18 : Option Addr} {sl18 : Array (Option Value)} {oc18 kV18 dc18 pm18 cd18 ct18 : Value}
    (a18 : PySem.W.nsIn K mainGlobals "_law_program" = some (some (.ref f18))) (l18 : K.lookup f18 = some ⟨oc18, od18, .func (PySem.W.fnOf "_law_program" "_law_program" (defArgs tp18) (defBody tp18) (defScope tp18) .none kV18 dc18 pm18 an18 cd18 ct18), sl18⟩) (c18 : PySem.W.codeIn K cd18 "_law_program" = true) (k18 : PySem.W.keepIn K (.ref f18) = true)
    {f19 : Addr} {od19 an19 : Option Addr} {sl19 : Array (Option Value)} {oc19 kV19 dc19 pm19 cd19 ct19 : Value}
    (a19 : PySem.W.nsIn K mainGlobals "_law_depth" = some (some (.ref f19))) (l19 : K.lookup f19 = some ⟨oc19, od19, .func (PySem.W.fnOf "_law_depth" "_law_depth" (defArgs tp19) (defBody tp19) (defScope tp19) .none kV19 dc19 pm19 an19 cd19 ct19), sl19⟩) (c19 : PySem.W.codeIn K cd19 "_law_depth" = true) (k19 : PySem.W.keepIn K (.ref f19) = true)
    {f20 : Addr} {od20 an20 : Option Addr} {sl20 : Array (Option Value)} {oc20 kV20 dc20 pm20 cd20 ct20 : Value}
    (a20 : PySem.W.nsIn K mainGlobals "_law_leaves" = some (some (.ref f20))) (l20 : K.lookup f20 = some ⟨oc20, od20, .func (PySem.W.fnOf "_law_leaves" "_law_leaves" (defArgs tp20) (defBody tp20) (defScope tp20) .none kV20 dc20 pm20 an20 cd20 ct20), sl20⟩) (c20 : PySem.W.codeIn K cd20 "_law_leaves" = true) (k20 : PySem.W.keepIn K (.ref f20) = true)
    {f21 : Addr} {od21 an21 : Option Addr} {sl21 : Array (Option Value)} {oc21 kV21 dc21 pm21 cd21 ct21 : Value}
    (a21 : PySem.W.nsIn K mainGlobals "_law_looks" = some (some (.ref f21))) (l21 : K.lookup f21 = some ⟨oc21, od21, .func (PySem.W.fnOf "_law_looks" "_law_looks" (defArgs tp21) (defBody tp21) (defScope tp21) .none kV21 dc21 pm21 an21 cd21 ct21), sl21⟩) (c21 : PySem.W.codeIn K cd21 "_law_looks" = true) (k21 : PySem.W.keepIn K (.ref f21) = true)
    {f22 : Addr} {od22 an22 : Option Addr} {sl22 : Array (Option Value)} {oc22 kV22 dc22 pm22 cd22 ct22 : Value}
    (a22 : PySem.W.nsIn K mainGlobals "_law_said" = some (some (.ref f22))) (l22 : K.lookup f22 = some ⟨oc22, od22, .func (PySem.W.fnOf "_law_said" "_law_said" (defArgs tp22) (defBody tp22) (defScope tp22) .none kV22 dc22 pm22 an22 cd22 ct22), sl22⟩) (c22 : PySem.W.codeIn K cd22 "_law_said" = true) (k22 : PySem.W.keepIn K (.ref f22) = true)
    {f23 : Addr} {od23 an23 : Option Addr} {sl23 : Array (Option Value)} {oc23 kV23 dc23 pm23 cd23 ct23 : Value}
    (a23 : PySem.W.nsIn K mainGlobals "_law_ways" = some (some (.ref f23))) (l23 : K.lookup f23 = some ⟨oc23, od23, .func (PySem.W.fnOf "_law_ways" "_law_ways" (defArgs tp23) (defBody tp23) (defScope tp23) .none kV23 dc23 pm23 an23 cd23 ct23), sl23⟩) (c23 : PySem.W.codeIn K cd23 "_law_ways" = true) (k23 : PySem.W.keepIn K (.ref f23) = true)
    {f24 : Addr} {od24 an24 : Option Addr} {sl24 : Array (Option Value)} {oc24 kV24 dc24 pm24 cd24 ct24 : Value}
    (a24 : PySem.W.nsIn K mainGlobals "_law_box" = some (some (.ref f24))) (l24 : K.lookup f24 = some ⟨oc24, od24, .func (PySem.W.fnOf "_law_box" "_law_box" (defArgs tp24) (defBody tp24) (defScope tp24) .none kV24 dc24 pm24 an24 cd24 ct24), sl24⟩) (c24 : PySem.W.codeIn K cd24 "_law_box" = true) (k24 : PySem.W.keepIn K (.ref f24) = true)
    {f25 : Addr} {od25 an25 : Option Addr} {sl25 : Array (Option Value)} {oc25 kV25 dc25 pm25 cd25 ct25 : Value}
    (a25 : PySem.W.nsIn K mainGlobals "_law_boxed" = some (some (.ref f25))) (l25 : K.lookup f25 = some ⟨oc25, od25, .func (PySem.W.fnOf "_law_boxed" "_law_boxed" (defArgs tp25) (defBody tp25) (defScope tp25) .none kV25 dc25 pm25 an25 cd25 ct25), sl25⟩) (c25 : PySem.W.codeIn K cd25 "_law_boxed" = true) (k25 : PySem.W.keepIn K (.ref f25) = true)
    {f26 : Addr} {od26 an26 : Option Addr} {sl26 : Array (Option Value)} {oc26 kV26 dc26 pm26 cd26 ct26 : Value}
    (a26 : PySem.W.nsIn K mainGlobals "_law_asked" = some (some (.ref f26))) (l26 : K.lookup f26 = some ⟨oc26, od26, .func (PySem.W.fnOf "_law_asked" "_law_asked" (defArgs tp26) (defBody tp26) (defScope tp26) .none kV26 dc26 pm26 an26 cd26 ct26), sl26⟩) (c26 : PySem.W.codeIn K cd26 "_law_asked" = true) (k26 : PySem.W.keepIn K (.ref f26) = true)
    {f27 : Addr} {od27 an27 : Option Addr} {sl27 : Array (Option Value)} {oc27 kV27 dc27 pm27 cd27 ct27 : Value}
    (a27 : PySem.W.nsIn K mainGlobals "_law_hand" = some (some (.ref f27))) (l27 : K.lookup f27 = some ⟨oc27, od27, .func (PySem.W.fnOf "_law_hand" "_law_hand" (defArgs tp27) (defBody tp27) (defScope tp27) .none kV27 dc27 pm27 an27 cd27 ct27), sl27⟩) (c27 : PySem.W.codeIn K cd27 "_law_hand" = true) (k27 : PySem.W.keepIn K (.ref f27) = true)
    {f28 : Addr} {od28 an28 : Option Addr} {sl28 : Array (Option Value)} {oc28 kV28 dc28 pm28 cd28 ct28 : Value}
    (a28 : PySem.W.nsIn K mainGlobals "law" = some (some (.ref f28))) (l28 : K.lookup f28 = some ⟨oc28, od28, .func (PySem.W.fnOf "law" "law" (defArgs tp28) (defBody tp28) (defScope tp28) .none kV28 dc28 pm28 an28 cd28 ct28), sl28⟩) (c28 : PySem.W.codeIn K cd28 "law" = true) (k28 : PySem.W.keepIn K (.ref f28) = true)
    (z_abs : PySem.W.nsIn K mainGlobals "abs" = some none)
    (z_bool : PySem.W.nsIn K mainGlobals "bool" = some none)
    (z_int : PySem.W.nsIn K mainGlobals "int" = some none)
    (z_isinstance : PySem.W.nsIn K mainGlobals "isinstance" = some none)
    (z_len : PySem.W.nsIn K mainGlobals "len" = some none)
    (z_list : PySem.W.nsIn K mainGlobals "list" = some none)
    (z_max : PySem.W.nsIn K mainGlobals "max" = some none)
    (z_range : PySem.W.nsIn K mainGlobals "range" = some none)
    (z_sorted : PySem.W.nsIn K mainGlobals "sorted" = some none)
    (z_str : PySem.W.nsIn K mainGlobals "str" = some none)
    (z_sum : PySem.W.nsIn K mainGlobals "sum" = some none)
    (z_tuple : PySem.W.nsIn K mainGlobals "tuple" = some none)
    (z_zip : PySem.W.nsIn K mainGlobals "zip" = some none)
    : ∃ fd : FuncData, (∀ (s : Shared) (v : Value), BindsTo s fd ⟨[v], []⟩ [("script", v)]) ∧ ∀ base : Heap, K.In base → base.Ns mainGlobals mg → FnOk l.prog w K mg base CX0 (29 + 1) fa fd ["script"] (spLaw K 63) := by
  have e := hfa.symm.trans (PySem.W.mg_of X G a28)
  cases e
  have F0 := fun_mk (st := tp0) l0 c0 k0
  have F1 := fun_mk (st := tp1) l1 c1 k1
  have F2 := fun_mk (st := tp2) l2 c2 k2
  have F3 := fun_mk (st := tp3) l3 c3 k3
  have F4 := fun_mk (st := tp4) l4 c4 k4
  have F5 := fun_mk (st := tp5) l5 c5 k5
  have F6 := fun_mk (st := tp6) l6 c6 k6
  have F7 := fun_mk (st := tp7) l7 c7 k7
  have F8 := fun_mk (st := tp8) l8 c8 k8
  have F9 := fun_mk (st := tp9) l9 c9 k9
  have F10 := fun_mk (st := tp10) l10 c10 k10
  have F11 := fun_mk (st := tp11) l11 c11 k11
  have F12 := fun_mk (st := tp12) l12 c12 k12
  have F13 := fun_mk (st := tp13) l13 c13 k13
  have F14 := fun_mk (st := tp14) l14 c14 k14
  have F15 := fun_mk (st := tp15) l15 c15 k15
  have F16 := fun_mk (st := tp16) l16 c16 k16
  have F17 := fun_mk (st := tp17) l17 c17 k17
  have F18 := fun_mk (st := tp18) l18 c18 k18
  have F19 := fun_mk (st := tp19) l19 c19 k19
  have F20 := fun_mk (st := tp20) l20 c20 k20
  have F21 := fun_mk (st := tp21) l21 c21 k21
  have F22 := fun_mk (st := tp22) l22 c22 k22
  have F23 := fun_mk (st := tp23) l23 c23 k23
  have F24 := fun_mk (st := tp24) l24 c24 k24
  have F25 := fun_mk (st := tp25) l25 c25 k25
  have F26 := fun_mk (st := tp26) l26 c26 k26
  have F27 := fun_mk (st := tp27) l27 c27 k27
  have F28 := fun_mk (st := tp28) l28 c28 k28
  refine ⟨_, fun s v => .of_eq rfl, fun base _ _ => fn_law (w28 (k := 29) (hyp_all F0 (PySem.W.mg_of X G a0) F1 (PySem.W.mg_of X G a1) F2 (PySem.W.mg_of X G a2) F3 (PySem.W.mg_of X G a3) F4 (PySem.W.mg_of X G a4) F5 (PySem.W.mg_of X G a5) F6 (PySem.W.mg_of X G a6) F7 (PySem.W.mg_of X G a7) F8 (PySem.W.mg_of X G a8) F9 (PySem.W.mg_of X G a9) F10 (PySem.W.mg_of X G a10) F11 (PySem.W.mg_of X G a11) F12 (PySem.W.mg_of X G a12) F13 (PySem.W.mg_of X G a13) F14 (PySem.W.mg_of X G a14) F15 (PySem.W.mg_of X G a15) F16 (PySem.W.mg_of X G a16) F17 (PySem.W.mg_of X G a17) F18 (PySem.W.mg_of X G a18) F19 (PySem.W.mg_of X G a19) F20 (PySem.W.mg_of X G a20) F21 (PySem.W.mg_of X G a21) F22 (PySem.W.mg_of X G a22) F23 (PySem.W.mg_of X G a23) F24 (PySem.W.mg_of X G a24) F25 (PySem.W.mg_of X G a25) F26 (PySem.W.mg_of X G a26) F27 (PySem.W.mg_of X G a27) F28 (PySem.W.mg_of X G a28) (PySem.W.mg_none_of X G z_abs) (PySem.W.mg_none_of X G z_bool) (PySem.W.mg_none_of X G z_int) (PySem.W.mg_none_of X G z_isinstance) (PySem.W.mg_none_of X G z_len) (PySem.W.mg_none_of X G z_list) (PySem.W.mg_none_of X G z_max) (PySem.W.mg_none_of X G z_range) (PySem.W.mg_none_of X G z_sorted) (PySem.W.mg_none_of X G z_str) (PySem.W.mg_none_of X G z_sum) (PySem.W.mg_none_of X G z_tuple) (PySem.W.mg_none_of X G z_zip) 29) F28) rfl law⟩
end K92
open PySem PySem.W PyProof.Rows
set_option maxHeartbeats 0 in
theorem PySem.Challenge.cw_howeverlaid_k92_whole_words_holds : PySem.Challenge.rw_howeverlaid_k92_whole_words.Holds := by
  w_on; o_law; k_head; (case hw => w_witness2)
  k_fill
  refine L2.walk_of (l := PySem.Challenge.rw_howeverlaid_k92_whole_words) (n := 63) (k := 29 + 1) (x := "script") (CX := fun _ => L2.CX0) (sp := fun w => Fw.spLaw _ 63) rfl (by decide) rfl ⟨rfl, by decide, by decide⟩ (fun w h Y => PySem.W.kIn_of Y) ?F (fun _ _ a ns hl _ hS => ⟨a, ns, rfl, hS, hl, fun _ => rfl⟩) (fun _ _ _ _ _ h => h)
  case F =>
    intro w mg fa h KX G hmg
    refine' K92.all_mk KX G hmg ?a0 ?l0 ?c0 ?k0 ?a1 ?l1 ?c1 ?k1 ?a2 ?l2 ?c2 ?k2 ?a3 ?l3 ?c3 ?k3 ?a4 ?l4 ?c4 ?k4 ?a5 ?l5 ?c5 ?k5 ?a6 ?l6 ?c6 ?k6 ?a7 ?l7 ?c7 ?k7 ?a8 ?l8 ?c8 ?k8 ?a9 ?l9 ?c9 ?k9 ?a10 ?l10 ?c10 ?k10 ?a11 ?l11 ?c11 ?k11 ?a12 ?l12 ?c12 ?k12 ?a13 ?l13 ?c13 ?k13 ?a14 ?l14 ?c14 ?k14 ?a15 ?l15 ?c15 ?k15 ?a16 ?l16 ?c16 ?k16 ?a17 ?l17 ?c17 ?k17 ?a18 ?l18 ?c18 ?k18 ?a19 ?l19 ?c19 ?k19 ?a20 ?l20 ?c20 ?k20 ?a21 ?l21 ?c21 ?k21 ?a22 ?l22 ?c22 ?k22 ?a23 ?l23 ?c23 ?k23 ?a24 ?l24 ?c24 ?k24 ?a25 ?l25 ?c25 ?k25 ?a26 ?l26 ?c26 ?k26 ?a27 ?l27 ?c27 ?k27 ?a28 ?l28 ?c28 ?k28 ?z_abs ?z_bool ?z_int ?z_isinstance ?z_len ?z_list ?z_max ?z_range ?z_sorted ?z_str ?z_sum ?z_tuple ?z_zip
    (case a0 => k_is); (case l0 => k_is); (case c0 => k_is); (case k0 => k_is); (case a1 => k_is); (case l1 => k_is); (case c1 => k_is); (case k1 => k_is); (case a2 => k_is); (case l2 => k_is); (case c2 => k_is); (case k2 => k_is); (case a3 => k_is); (case l3 => k_is); (case c3 => k_is); (case k3 => k_is); (case a4 => k_is); (case l4 => k_is); (case c4 => k_is); (case k4 => k_is); (case a5 => k_is); (case l5 => k_is); (case c5 => k_is); (case k5 => k_is); (case a6 => k_is); (case l6 => k_is); (case c6 => k_is); (case k6 => k_is); (case a7 => k_is); (case l7 => k_is); (case c7 => k_is); (case k7 => k_is); (case a8 => k_is); (case l8 => k_is); (case c8 => k_is); (case k8 => k_is); (case a9 => k_is); (case l9 => k_is); (case c9 => k_is); (case k9 => k_is); (case a10 => k_is); (case l10 => k_is); (case c10 => k_is); (case k10 => k_is); (case a11 => k_is); (case l11 => k_is); (case c11 => k_is); (case k11 => k_is); (case a12 => k_is); (case l12 => k_is); (case c12 => k_is); (case k12 => k_is); (case a13 => k_is); (case l13 => k_is); (case c13 => k_is); (case k13 => k_is); (case a14 => k_is); (case l14 => k_is); (case c14 => k_is); (case k14 => k_is); (case a15 => k_is); (case l15 => k_is); (case c15 => k_is); (case k15 => k_is); (case a16 => k_is); (case l16 => k_is); (case c16 => k_is); (case k16 => k_is); (case a17 => k_is); (case l17 => k_is); (case c17 => k_is); (case k17 => k_is); (case a18 => k_is); (case l18 => k_is); (case c18 => k_is); (case k18 => k_is); (case a19 => k_is); (case l19 => k_is); (case c19 => k_is); (case k19 => k_is); (case a20 => k_is); (case l20 => k_is); (case c20 => k_is); (case k20 => k_is); (case a21 => k_is); (case l21 => k_is); (case c21 => k_is); (case k21 => k_is); (case a22 => k_is); (case l22 => k_is); (case c22 => k_is); (case k22 => k_is); (case a23 => k_is); (case l23 => k_is); (case c23 => k_is); (case k23 => k_is); (case a24 => k_is); (case l24 => k_is); (case c24 => k_is); (case k24 => k_is); (case a25 => k_is); (case l25 => k_is); (case c25 => k_is); (case k25 => k_is); (case a26 => k_is); (case l26 => k_is); (case c26 => k_is); (case k26 => k_is); (case a27 => k_is); (case l27 => k_is); (case c27 => k_is); (case k27 => k_is); (case a28 => k_is); (case l28 => k_is); (case c28 => k_is); (case k28 => k_is); (case z_abs => k_is); (case z_bool => k_is); (case z_int => k_is); (case z_isinstance => k_is); (case z_len => k_is); (case z_list => k_is); (case z_max => k_is); (case z_range => k_is); (case z_sorted => k_is); (case z_str => k_is); (case z_sum => k_is); (case z_tuple => k_is); (case z_zip => k_is)
