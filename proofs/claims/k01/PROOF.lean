import PyProof.Rows.All
import Wide.All
import OpenK.AllK
import Wide.FinOn
import HandS.ForMost
import HandS.Exc
import HandS.Wide
import HandS.WideBits
import HandS.Style
import HandS.IsInst
import HandS.Deep
import HandS.TupAny
import HandS.TupLe
import HandS.TupMul
import HandS.ExcField
import HandS.ExcIs
import KE.GoesMore
import KE.GoesNew
import KE.GoesZip
import HandS.Comp
import HandS.WordsExc
import HandS.ExcSuper
import KE.KExcSuper
import KE.KSuper
import HandS.Ends
import HandS.EndBits
import PyProof.ReprLen
import PyProof.EqLayable
import PySem.Challenge.RW_sayingsofsums_k01_sums_products_and_rest
set_option Elab.async false
set_option linter.all false
set_option maxRecDepth 100000
set_option maxHeartbeats 4000000
/-! A small language of plain values, and what it computes. -/
namespace Dp
open PySem

/-- plain values -/
inductive D where
  | non | bl (b : Bool) | int (i : Int) | str (s : Str)
  | tup (xs : List D) | lst (xs : List D)
  | ins (c : Nat) (fs : List (Nat × D))
  | exc (c : Nat) (v : D)
  /-- the script -/
  | scr (xs : List Int)

instance : Inhabited D := ⟨.non⟩

/-- what a name holds: nothing known, a value that others may hold too, an object of its own, one lent by the caller -/
inductive Slot where
  | no | sh (d : D) | ow (d : D) | io (d : D)

abbrev Rho := List Slot

def Slot.cont : Slot → Option D
  | .no => none | .sh d => some d | .ow d => some d | .io d => some d

/-- a value with how it is held: shared, or a new object of one's own -/
inductive Res where
  | sh (d : D) | fr (d : D)
def Res.d : Res → D
  | .sh d => d | .fr d => d
def Res.slot : Res → Slot
  | .sh d => .sh d | .fr d => .ow d

inductive R (α : Type) where
  | ok (a : α) | exc (c : Nat) (d : D) (ρ : Rho) | bad
@[inline] def R.bind {α β : Type} (x : R α) (f : α → R β) : R β :=
  match x with
  | .ok a => f a | .exc c d ρ => .exc c d ρ | .bad => .bad
def R.opt {α : Type} : Option α → R α
  | some a => .ok a | none => .bad

/-- what a call gives: a value and what the lent objects are behind it, or an error -/
inductive CR where
  | ok (r : Res) (fin : Rho) | exc (c : Nat) (d : D) | bad
abbrev CallFn := Nat → Rho → CR

inductive XR where
  | nx (ρ : Rho) | rt (r : Res) (ρ : Rho) | bk (ρ : Rho) | ct (ρ : Rho) | exc (c : Nat) (d : D) (ρ : Rho) | bad

inductive BOp where | add | sub | mul | fdiv | mod | pow
inductive COp where | eq | ne | lt | le | gt | ge | is | isNot | in_ | notIn
/-- built-in functions -/
inductive Bi where
  | len | abs | max2 | min2 | all_ | any_ | sum_ | tuple | list | int | str | repr | min1 | max1 | gcd
/-- what isinstance asks -/
inductive Ty where | int | bool | str | tuple | list | cls (c : Nat)

/-- built-in functions that give what a for walks -/
inductive IB where | rng | enum | zip
mutual
inductive E where
  | slot (i : Nat) | mv (i : Nat) | cst (d : D)
  | tup (es : List E) | lst (es : List E)
  | bin (op : BOp) (a b : E) | neg (a : E) | not (a : E) | and (a b : E) | or (a b : E) | ite (c a b : E)
  | cmp (op : COp) (a b : E) | chain (op op' : COp) (a b c : E)
  | idx (a i : E) | slc (a : E) (lo hi : Option E) | fld (a : E) (f : Nat)
  | call (f : Nat) (as : List Ar) | callK (f : Nat) (pm : List Nat) (as ks : List Ar) | meth (m : Nat) (a : Ar) (as : List Ar) | new (c : Nat) (as : List Ar)
  | bi (b : Bi) (es : List E) | isi (a : E) (t : Ty)
  | comp (w : List Nat) (t : T) (it : It) (cs : List E) (e : E)
  | comp2 (w : List Nat) (t : T) (it : It) (cs : List E) (t1 : T) (it1 : It) (cs1 : List E) (e : E)
  | str (es : List E)
  | rev (a : E)
/-- an argument: shared, or a name's own object lent -/
inductive Ar where
  | sh (e : E) | io (i : Nat)
inductive T where
  | nm (i : Nat) | tp (ts : List T)
inductive It where
  | seq (e : E) | bi (b : IB) (es : List E)
end

inductive S where
  | set (i : Nat) (e : E) | par (i j : Nat) (a b : E) | unp (t : T) (e : E)
  | setIx (a : Nat) (i e : E) | augIx (op : BOp) (a : Nat) (i e : E) | aug (op : BOp) (i : Nat) (e : E)
  | setFld (a : Nat) (f : Nat) (e : E)
  | app (a : Nat) (e : E) | pop (a : Nat) | ext (a : Nat) (e : E)
  | expr (e : E) | ret (e : E) | retN
  | ite (c : E) (a b : List S) | whl (c : E) (b : List S) | for_ (t : T) (it : It) (b : List S)
  | raise (c : Nat) (e : E)
  | try_ (b : List S) (c : Nat) (i : Nat) (h : List S)
  | pass | brk | cont

structure Def where
  /-- how many parameters, how many names -/
  np : Nat
  ns : Nat
  body : List S

/-! ### what the operations give -/
def D.toPy : D → Option PyData
  | .non => some .none | .bl b => some (.bool b) | .int i => some (.int i) | .str s => some (.str s)
  | .tup xs => (toPyL xs).map .tuple | .lst xs => (toPyL xs).map .list
  | .ins _ _ => none | .exc _ _ => none | .scr _ => none
where toPyL : List D → Option (List PyData)
  | [] => some []
  | x :: xs => match x.toPy, toPyL xs with
    | some d, some ds => some (d :: ds) | _, _ => none

def tru : D → Option Bool
  | .bl b => some b | _ => none

def okLen (n : Nat) : Bool := decide (n ≤ 16777216)
def ltLen (n : Nat) : Bool := decide (n < 16777216)
/-- == of plain data -/
def eqD (d e : D) : Option Bool :=
  match d.toPy, e.toPy with
  | some p, some q => if SeqAt.shaped p && SeqAt.shaped q then some (PyData.eqv p q) else none
  | _, _ => none
def mulOk (i j : Int) : Bool := decide ((Builtin.Int.intBits i : Int) + (Builtin.Int.intBits j : Int) ≤ 134217728)
def divOk (j : Int) : Bool := decide (0 < j) && decide (j.natAbs.log2 < 9000)
def divOkN (j : Int) : Bool := decide (j ≠ 0) && decide (j.natAbs.log2 < 9000)

def addD : D → D → Option Res
  | .int i, .int j => some (.sh (.int (i + j)))
  | .str i, .str j => if okLen (i.length + j.length) then some (.sh (.str (i ++ j))) else none
  | .lst xs, .lst ys => if okLen (xs.length + ys.length) then some (.fr (.lst (xs ++ ys))) else none
  | .tup xs, .tup ys => if okLen (xs.length + ys.length) then some (.sh (.tup (xs ++ ys))) else none
  | _, _ => none
def subD : D → D → Option Res
  | .int i, .int j => some (.sh (.int (i - j)))
  | _, _ => none
def mulD : D → D → Option Res
  | .int i, .int j => if mulOk i j then some (.sh (.int (i * j))) else none
  | .lst xs, .int k => if decide (-(2 ^ 63) ≤ k) && decide (k < 2 ^ 63) && okLen (xs.length * k.toNat) then some (.fr (.lst (List.replicate k.toNat xs).flatten)) else none
  | .tup xs, .int k => if !xs.isEmpty && decide (2 ≤ k) && decide (k ≤ 1000) && decide (xs.length ≤ 1000) then some (.sh (.tup (List.replicate k.toNat xs).flatten)) else none
  | _, _ => none
def fdivD : D → D → Option Res
  | .int i, .int j => if divOkN j then some (.sh (.int (i.fdiv j))) else none
  | _, _ => none
def modD : D → D → Option Res
  | .int i, .int j => if j ≠ 0 then some (.sh (.int (i.fmod j))) else none
  | _, _ => none
def powD : D → D → Option Res
  | .int i, .int j => if 0 ≤ j ∧ j ≤ 1000000 ∧ i.natAbs < 2 ^ 64 then some (.sh (.int (i ^ j.toNat))) else none
  | _, _ => none
def bop : BOp → D → D → Option Res
  | .add => addD | .sub => subD | .mul => mulD | .fdiv => fdivD | .mod => modD | .pow => powD

def cstV : D → Option L2.V
  | .non => some .non | .bl b => some (.bl b) | .int i => some (.int i) | .str s => some (.str s) | _ => none
def cstVs : List D → Option (List L2.V)
  | [] => some []
  | d :: ds => match cstV d, cstVs ds with
    | some v, some vs => some (v :: vs) | _, _ => none
/-- an augmented operator of ints -/
def aop : BOp → Int → Int → Option Int
  | .add, i, j => some (i + j)
  | .sub, i, j => some (i - j)
  | .mul, i, j => if mulOk i j then some (i * j) else none
  | .fdiv, i, j => if decide (0 < j) && decide (j < 1073741824) then some (i / j) else none
  | .mod, i, j => if 0 < j then some (i % j) else none
  | .pow, _, _ => none
def inD (d : D) : D → Option Bool
  | .lst ys => match d.toPy, (D.lst ys).toPy with
    | some p, some (.list qs) => if SeqAt.shaped p && SeqAt.shaped (.list qs) then some (qs.any fun z => PyData.eqv z p) else none
    | _, _ => none
  | .tup ys => match cstV d, cstVs ys with
    | some v, some vs => some (L2.inV v vs)
    | _, _ => none
  | _ => none

def cmpI (p : Int → Int → Bool) : D → D → Option Bool
  | .int i, .int j => some (p i j)
  | _, _ => none
def D.isNon : D → Bool
  | .non => true | _ => false
def isD : D → D → Option Bool
  | d, .non => some d.isNon
  | .bl a, .bl b => some (decide (a = b))
  | _, _ => none
def cop : COp → D → D → Option Bool
  | .lt => cmpI fun i j => decide (i < j)
  | .le => cmpI fun i j => decide (i ≤ j)
  | .gt => cmpI fun i j => decide (j < i)
  | .ge => cmpI fun i j => decide (j ≤ i)
  | .is => isD
  | .isNot => fun d e => (isD d e).map (!·)
  | .eq => eqD
  | .ne => fun d e => (eqD d e).map (!·)
  | .in_ => inD
  | .notIn => fun d e => (inD d e).map (!·)

def intsD : List D → Option (List Int)
  | [] => some []
  | .int i :: r => (intsD r).map (i :: ·)
  | _ => none
def boolsD : List D → Option (List Bool)
  | [] => some []
  | .bl i :: r => (boolsD r).map (i :: ·)
  | _ => none

def ixD : D → D → Option D
  | .lst xs, .int i => L2.atI xs i
  | .tup xs, .int i => L2.atI xs i
  | .scr xs, .int i => (L2.atI xs i).map .int
  | _, _ => none

def shown (d : D) : Option Str :=
  match d.toPy with
  | some p => if p.showable && SeqAt.shaped p && okLen p.shown.length then some p.shown else none
  | none => none

def lenB : List D → Option Res
  | [.lst xs] => some (.sh (.int xs.length))
  | [.tup xs] => some (.sh (.int xs.length))
  | [.scr xs] => some (.sh (.int xs.length))
  | [.str s] => if okLen s.length then some (.sh (.int s.length)) else none
  | _ => none
def absB : List D → Option Res
  | [.int i] => some (.sh (.int (if i < 0 then -i else i)))
  | _ => none
def maxB : List D → Option Res
  | [.int i, .int j] => some (.sh (.int (if j > i then j else i)))
  | _ => none
def minB : List D → Option Res
  | [.int i, .int j] => some (.sh (.int (if j < i then j else i)))
  | _ => none
def allB : List D → Option Res
  | [.lst xs] => (boolsD xs).map fun l => .sh (.bl (l.all id))
  | _ => none
def anyB : List D → Option Res
  | [.lst xs] => (boolsD xs).map fun l => .sh (.bl (l.any id))
  | _ => none
def sumB : List D → Option Res
  | [.lst xs] => (intsD xs).map fun l => .sh (.int l.sum)
  | _ => none
def tupleB : List D → Option Res
  | [.lst xs] => some (.sh (.tup xs))
  | [.tup xs] => some (.sh (.tup xs))
  | _ => none
def listB : List D → Option Res
  | [.lst xs] => some (.fr (.lst xs))
  | [.tup xs] => some (.fr (.lst xs))
  | [.scr xs] => some (.fr (.lst (xs.map .int)))
  | _ => none
def intB : List D → Option Res
  | [.int i] => some (.sh (.int i))
  | [.bl b] => some (.sh (.int (if b then 1 else 0)))
  | _ => none
def reprB : List D → Option Res
  | [d] => (shown d).map fun s => .sh (.str s)
  | _ => none
def gcdB : List D → Option Res
  | [.int i, .int j] => some (.sh (.int ((Nat.gcd i.natAbs j.natAbs : Nat) : Int)))
  | _ => none
def minL : List D → Option Res
  | [.lst (x :: xs)] => match intsD (x :: xs) with
    | some (i :: is) => some (.sh (.int (is.foldl min i)))
    | _ => none
  | _ => none
def maxL : List D → Option Res
  | [.lst (x :: xs)] => match intsD (x :: xs) with
    | some (i :: is) => some (.sh (.int (is.foldl max i)))
    | _ => none
  | _ => none
def bi : Bi → List D → Option Res
  | .len => lenB | .abs => absB | .max2 => maxB | .min2 => minB | .all_ => allB | .any_ => anyB | .sum_ => sumB
  | .tuple => tupleB | .list => listB | .int => intB | .repr => reprB | .gcd => gcdB | .min1 => minL | .max1 => maxL
  | .str => fun _ => none

/-- isinstance, by what the value is; an error's class by the table -/
def tyIs (sub : Nat → Nat → Option Bool) : D → Ty → Option Bool
  | .exc c _, .cls k => sub c k
  | .exc _ _, _ => none
  | .ins _ _, _ => none
  | .scr _, _ => none
  | _, .cls _ => none
  | .int _, .int => some true | .bl _, .int => some true | .bl _, .bool => some true | .str _, .str => some true
  | .tup _, .tuple => some true | .lst _, .list => some true
  | _, _ => some false

def cutD : D → Option Int → Option Int → Option Res
  | .lst xs, lo, hi => some (.fr (.lst ((xs.drop (HT.sIx xs.length 0 lo)).take (HT.sIx xs.length xs.length hi - HT.sIx xs.length 0 lo))))
  | .tup xs, lo, hi => some (.sh (.tup ((xs.drop (HT.sIx xs.length 0 lo)).take (HT.sIx xs.length xs.length hi - HT.sIx xs.length 0 lo))))
  | _, _, _ => none

mutual
/-- the names of a target -/
def hasT : T → Nat → Bool
  | .nm i, j => i == j
  | .tp ts, j => hasTs ts j
def hasTs : List T → Nat → Bool
  | [], _ => false
  | t :: ts, j => hasT t j || hasTs ts j
end
mutual
/-- a target takes a value -/
def bindT : T → D → Rho → Option Rho
  | .nm i, d, ρ => match ρ[i]? with
    | some (.io _) => none
    | some _ => some (ρ.set i (.sh d))
    | none => none
  | .tp ts, .tup xs, ρ => bindTs ts xs ρ
  | .tp _, _, _ => none
def bindTs : List T → List D → Rho → Option Rho
  | [], [], ρ => some ρ
  | t :: ts, x :: xs, ρ => match bindT t x ρ with
    | some ρ' => bindTs ts xs ρ' | none => none
  | _, _, _ => none
end

def wipeR (ρ : Rho) : List Nat → Rho
  | [] => ρ
  | v :: vs => (wipeR ρ vs).set v .no

/-- an operand: a name's content as it will be, or a value -/
inductive Opd where
  | at (i : Nat) | val (d : D)
def Opd.get (ρ : Rho) : Opd → Option D
  | .at i => match ρ[i]? with | some s => s.cont | none => none
  | .val d => some d
def getAll (ρ : Rho) : List Opd → Option (List D)
  | [] => some []
  | o :: os => match o.get ρ, getAll ρ os with
    | some d, some ds => some (d :: ds) | _, _ => none

/-- a name assigned -/
def setR (ρ : Rho) (i : Nat) (s : Slot) : Option Rho :=
  match ρ[i]? with
  | some (.io _) => none
  | some _ => some (ρ.set i s)
  | none => none
/-- a name read as a value -/
def readR (ρ : Rho) (i : Nat) : R (Res × Rho) :=
  match ρ[i]? with
  | some (.sh d) => .ok (.sh d, ρ)
  | some (.ow d) => .ok (.sh d, ρ.set i (.sh d))
  | _ => .bad
def moveR (ρ : Rho) (i : Nat) : R (Res × Rho) :=
  match ρ[i]? with
  | some (.sh d) => .ok (.sh d, ρ)
  | some (.ow d) => .ok (.fr d, ρ.set i .no)
  | _ => .bad
def fldD (fok : Nat → Nat → Bool) (eok : Nat → Bool) (f : Nat) : D → Option D
  | .ins c fs => if fok c f then fs.lookup f else none
  | .exc c v => if f = 0 then if eok c then some v else none else none
  | _ => none

/-- arguments gathered: values, and lent names -/
inductive AV where
  | sh (r : Res) | io (i : Nat)
def avSlots (ρ : Rho) : List AV → Option Rho
  | [] => some []
  | .sh r :: r' => (avSlots ρ r').map (r.slot :: ·)
  | .io i :: r' => match ρ[i]? with
    | some (.ow d) => (avSlots ρ r').map (.io d :: ·)
    | some (.io d) => (avSlots ρ r').map (.io d :: ·)
    | _ => none
/-- the lent names behind the call -/
def avBack (ρ : Rho) : List AV → Rho → Option Rho
  | [], _ => some ρ
  | .sh _ :: r, _ :: fin => avBack ρ r fin
  | .io i :: r, .io d :: fin => match ρ[i]? with
    | some (.ow _) => avBack (ρ.set i (.ow d)) r fin
    | some (.io _) => avBack (ρ.set i (.io d)) r fin
    | _ => none
  | _, _ => none
/-- the lent names where the call raises: nothing is known of them (own ones), lent ones make it stuck -/
def avLost (ρ : Rho) : List AV → Option Rho
  | [] => some ρ
  | .sh _ :: r => avLost ρ r
  | .io i :: r => match ρ[i]? with
    | some (.ow _) => avLost (ρ.set i .no) r
    | _ => none
def noDup : List AV → Bool
  | [] => true
  | .sh _ :: r => noDup r
  | .io i :: r => !(r.any fun | .io j => i == j | _ => false) && noDup r
def callWith (cf : CallFn) (f : Nat) (as : List AV) (ρ : Rho) : R (Res × Rho) :=
  if noDup as then
    match avSlots ρ as with
    | some ss => match cf f ss with
      | .ok r fin => match avBack ρ as fin with
        | some ρ' => .ok (r, ρ') | none => .bad
      | .exc c d => match avLost ρ as with
        | some ρ' => .exc c d ρ' | none => .bad
      | .bad => .bad
    | none => .bad
  else .bad

/-- keywords: each parameter's argument by its place among the written ones -/
def permX {α : Type} (as : List α) : List Nat → Option (List α)
  | [] => some []
  | k :: ks => match as[k]?, permX as ks with
    | some a, some r => some (a :: r) | _, _ => none
/-- the world of a program: its defs' methods, the __init__ of its classes, which class lies under which -/
structure Wd where
  cf : CallFn
  meth : Nat → Nat → Option Nat
  init : Nat → Option Nat
  sub : Nat → Nat → Option Bool
  /-- which attributes the instances of a class may have -/
  fok : Nat → Nat → Bool
  /-- the classes of errors -/
  eok : Nat → Bool

def rngL (a b : Int) : List D := (List.range (b - a).toNat).map fun k => .int (a + (k : Nat))
def rOk (a : Int) : Bool := decide (-(2 ^ 62) ≤ a) && decide (a < 2 ^ 62)
def enumL : Nat → List D → List D
  | _, [] => []
  | k, x :: xs => .tup [.int k, x] :: enumL (k + 1) xs
def zipL : List D → List D → List D
  | x :: xs, y :: ys => .tup [x, y] :: zipL xs ys
  | _, _ => []
def seqOf : D → Option (List D)
  | .lst xs => some xs | .tup xs => some xs | .scr xs => some (xs.map .int) | _ => none

def rng3 (i j k : Int) : Option (List D) :=
  if decide (k ≠ 0) && decide (k.natAbs < 1073741824) && Builtin.Range.small i j k && decide (Builtin.Range.rangeSize i j k = ((Builtin.Range.rangeSize i j k).toNat : Int)) then
    some ((List.range (Builtin.Range.rangeSize i j k).toNat).map fun t => .int (i + (t : Nat) * k)) else none
def itB : IB → List D → Option (List D)
  | .rng, [.int n] => if rOk n then some (rngL 0 n) else none
  | .rng, [.int m, .int n] => if rOk m && rOk n then some (rngL m n) else none
  | .rng, [.int i, .int j, .int k] => rng3 i j k
  | .enum, [d] => (seqOf d).map (enumL 0)
  | .zip, [d, e] => match seqOf d, seqOf e with
    | some xs, some ys => some (zipL xs ys) | _, _ => none
  | _, _ => none
/-- the names of a display behind it: as they were, where that is known -/
def unwipe (ρ0 ρ : Rho) : List Nat → Rho
  | [] => ρ
  | v :: vs => (unwipe ρ0 ρ vs).set v (match ρ0[v]? with | some (.sh d) => .sh d | _ => .no)
def wOk (ρ : Rho) (w : List Nat) : Bool := w.all fun v => match ρ[v]? with | some (.io _) => false | _ => true
/-- the turns of a list display -/
def compGo (w : List Nat) (t : T) (test : Rho → R (Bool × Rho)) (elt : Rho → R (Res × Rho)) : List D → List D → Rho → Option (List D × Rho)
  | [], acc, ρ => some (acc, ρ)
  | x :: xs, acc, ρ => match bindT t x ρ with
    | none => none
    | some ρ1 => match test ρ1 with
      | .ok (true, ρ2) => (match elt ρ2 with
        | .ok (r, ρ3) => if ltLen acc.length then compGo w t test elt xs (acc ++ [r.d]) (wipeR ρ3 w) else none
        | _ => none)
      | .ok (false, ρ2) => compGo w t test elt xs acc (wipeR ρ2 w)
      | _ => none

/-- an operand -/
def pk (a : E) (f : Rho → R (Res × Rho)) (ρ : Rho) : R (Opd × Rho) :=
  match a with
  | .slot i => (match (Opd.at i).get ρ with | some _ => .ok (.at i, ρ) | none => .bad)
  | .cst d => .ok (.val d, ρ)
  | _ => (f ρ).bind fun (r, ρ') => .ok (.val r.d, ρ')
def AV.get (ρ : Rho) : AV → Option D
  | .sh r => some r.d
  | .io i => (Opd.at i).get ρ

section
variable (W : Wd)
mutual
def ev : E → Rho → R (Res × Rho)
  | .slot i, ρ => readR ρ i
  | .mv i, ρ => moveR ρ i
  | .cst d, ρ => .ok (.sh d, ρ)
  | .tup es, ρ => (evL es ρ).bind fun (ds, ρ') => if okLen ds.length then .ok (.sh (.tup ds), ρ') else .bad
  | .lst es, ρ => (evL es ρ).bind fun (ds, ρ') => if okLen ds.length then .ok (.fr (.lst ds), ρ') else .bad
  | .bin op a b, ρ => (pk a (ev a) ρ).bind fun (x, ρ1) => (pk b (ev b) ρ1).bind fun (y, ρ2) =>
      match x.get ρ2, y.get ρ2 with
      | some d, some e => (R.opt (bop op d e)).bind fun r => .ok (r, ρ2)
      | _, _ => .bad
  | .neg a, ρ => (pk a (ev a) ρ).bind fun (x, ρ1) => match x.get ρ1 with
      | some (.int i) => .ok (.sh (.int (-i)), ρ1) | _ => .bad
  | .not a, ρ => (pk a (ev a) ρ).bind fun (x, ρ1) => match x.get ρ1 with
      | some (.bl b) => .ok (.sh (.bl (!b)), ρ1) | _ => .bad
  | .and a b, ρ => (pk a (ev a) ρ).bind fun (x, ρ1) => match x.get ρ1 with
      | some (.bl true) => ev b ρ1
      | some (.bl false) => .ok (.sh (.bl false), ρ1) | _ => .bad
  | .or a b, ρ => (pk a (ev a) ρ).bind fun (x, ρ1) => match x.get ρ1 with
      | some (.bl false) => ev b ρ1
      | some (.bl true) => .ok (.sh (.bl true), ρ1) | _ => .bad
  | .ite c a b, ρ => (pk c (ev c) ρ).bind fun (x, ρ1) => match x.get ρ1 with
      | some (.bl true) => ev a ρ1
      | some (.bl false) => ev b ρ1 | _ => .bad
  | .cmp op a b, ρ => (pk a (ev a) ρ).bind fun (x, ρ1) => (pk b (ev b) ρ1).bind fun (y, ρ2) =>
      match x.get ρ2, y.get ρ2 with
      | some d, some e => (R.opt (cop op d e)).bind fun r => .ok (.sh (.bl r), ρ2)
      | _, _ => .bad
  | .chain op op' a b c, ρ => (pk a (ev a) ρ).bind fun (x, ρ1) => (pk b (ev b) ρ1).bind fun (y, ρ2) =>
      match x.get ρ2, y.get ρ2 with
      | some d, some e => (R.opt (cop op d e)).bind fun r => match r with
        | false => .ok (.sh (.bl false), ρ2)
        | true => (pk c (ev c) ρ2).bind fun (z, ρ3) => match y.get ρ3, z.get ρ3 with
          | some e', some g => (R.opt (cop op' e' g)).bind fun r => .ok (.sh (.bl r), ρ3)
          | _, _ => .bad
      | _, _ => .bad
  | .idx a i, ρ => (pk a (ev a) ρ).bind fun (x, ρ1) => (pk i (ev i) ρ1).bind fun (y, ρ2) =>
      match x.get ρ2, y.get ρ2 with
      | some d, some e => (R.opt (ixD d e)).bind fun r => .ok (.sh r, ρ2)
      | _, _ => .bad
  | .slc a lo hi, ρ => (pk a (ev a) ρ).bind fun (x, ρ1) => (evO lo ρ1).bind fun (l, ρ2) => (evO hi ρ2).bind fun (h, ρ3) =>
      match x.get ρ3 with
      | some d => (R.opt (cutD d l h)).bind fun r => .ok (r, ρ3)
      | _ => .bad
  | .fld a f, ρ => (pk a (ev a) ρ).bind fun (x, ρ1) => match x.get ρ1 with
      | some d => (R.opt (fldD W.fok W.eok f d)).bind fun r => .ok (.sh r, ρ1)
      | _ => .bad
  | .call f as, ρ => (evA as ρ).bind fun (vs, ρ1) => callWith W.cf f vs ρ1
  | .callK f pm as ks, ρ => (evA as ρ).bind fun (vs, ρ1) => (evA ks ρ1).bind fun (zs, ρ2) => (R.opt (permX (vs ++ zs) pm)).bind fun ws => callWith W.cf f ws ρ2
  | .meth m a as, ρ => (evA1 a ρ).bind fun (v, ρ1) => match v.get ρ1 with
      | some (.ins c _) => (R.opt (W.meth c m)).bind fun f => (evA as ρ1).bind fun (vs, ρ2) => callWith W.cf f (v :: vs) ρ2
      | _ => .bad
  | .new c as, ρ => (evA as ρ).bind fun (vs, ρ1) => (R.opt (W.init c)).bind fun f =>
      match callWith W.cf f (.io ρ1.length :: vs) (ρ1 ++ [.ow (.ins c [])]) with
      | .ok (.sh .non, ρ2) => (match ρ2.getLast? with
        | some (.ow o) => .ok (.fr o, ρ2.dropLast)
        | _ => .bad)
      | _ => .bad
  | .bi b es, ρ => (evPs es ρ).bind fun (os, ρ1) => match getAll ρ1 os with
      | some ds => (R.opt (bi b ds)).bind fun r => .ok (r, ρ1)
      | none => .bad
  | .isi a ts, ρ => (pk a (ev a) ρ).bind fun (x, ρ1) => match x.get ρ1 with
      | some d => (R.opt (tyIs W.sub d ts)).bind fun r => .ok (.sh (.bl r), ρ1)
      | none => .bad
  | .comp w t it cs e, ρ => (evI it ρ).bind fun (xs, ρ1) => if wOk ρ1 w then
      (R.opt (compGo w t (evT cs) (ev e) xs [] (wipeR ρ1 w))).bind fun (acc, ρ') => .ok (.fr (.lst acc), unwipe ρ1 ρ' w)
      else .bad
  | .comp2 w t it cs t1 it1 cs1 e, ρ => .bad
  | .str es, ρ => .bad
  | .rev a, ρ => (pk a (ev a) ρ).bind fun (x, ρ1) => match x.get ρ1 with
      | some (.lst xs) => .ok (.fr (.lst xs.reverse), ρ1) | _ => .bad
def evA1 : Ar → Rho → R (AV × Rho)
  | .sh e, ρ => (ev e ρ).bind fun (x, ρ1) => .ok (.sh (.sh x.d), ρ1)
  | .io i, ρ => (match (Opd.at i).get ρ with | some _ => .ok (.io i, ρ) | none => .bad)
def evO : Option E → Rho → R (Option Int × Rho)
  | none, ρ => .ok (none, ρ)
  | some e, ρ => (ev e ρ).bind fun (r, ρ') => match r with
      | .sh (.int i) => .ok (some i, ρ') | _ => .bad
def evPs : List E → Rho → R (List Opd × Rho)
  | [], ρ => .ok ([], ρ)
  | e :: es, ρ => (pk e (ev e) ρ).bind fun (x, ρ1) => (evPs es ρ1).bind fun (xs, ρ2) => .ok (x :: xs, ρ2)
def evL : List E → Rho → R (List D × Rho)
  | [], ρ => .ok ([], ρ)
  | e :: es, ρ => (ev e ρ).bind fun (x, ρ1) => (evL es ρ1).bind fun (xs, ρ2) => .ok (x.d :: xs, ρ2)
def evA : List Ar → Rho → R (List AV × Rho)
  | [], ρ => .ok ([], ρ)
  | a :: es, ρ => (evA1 a ρ).bind fun (x, ρ1) => (evA es ρ1).bind fun (xs, ρ2) => .ok (x :: xs, ρ2)
/-- tests of a list display, from the left -/
def evT : List E → Rho → R (Bool × Rho)
  | [], ρ => .ok (true, ρ)
  | e :: es, ρ => (pk e (ev e) ρ).bind fun (x, ρ1) => match x.get ρ1 with
      | some (.bl true) => evT es ρ1
      | some (.bl false) => .ok (false, ρ1)
      | _ => .bad
/-- what a for walks -/
def evI : It → Rho → R (List D × Rho)
  | .seq e, ρ => (ev e ρ).bind fun (r, ρ1) => (R.opt (seqOf r.d)).bind fun xs => .ok (xs, ρ1)
  | .bi b es, ρ => (evL es ρ).bind fun (ds, ρ1) => (R.opt (itB b ds)).bind fun xs => .ok (xs, ρ1)
end

/-- behind a while: what its turns come to, if they come to an end -/
def iterW (c : Rho → R (Bool × Rho)) (b : Rho → XR) : Nat → Rho → Option XR
  | 0, _ => none
  | k + 1, ρ => match c ρ with
    | .ok (true, ρ1) => (match b ρ1 with
      | .nx ρ2 => iterW c b k ρ2
      | .ct ρ2 => iterW c b k ρ2
      | .bk ρ2 => some (.nx ρ2)
      | o => some o)
    | .ok (false, ρ1) => some (.nx ρ1)
    | .exc k d ρ1 => some (.exc k d ρ1)
    | .bad => some .bad
open Classical in
noncomputable def loopW (c : Rho → R (Bool × Rho)) (b : Rho → XR) (ρ : Rho) : XR :=
  if h : ∃ r, ∃ k, iterW c b k ρ = some r then h.choose else .bad
/-- a for's turns -/
def forGo (t : T) (b : Rho → XR) : List D → Rho → XR
  | [], ρ => .nx ρ
  | x :: xs, ρ => match bindT t x ρ with
    | none => .bad
    | some ρ1 => match b ρ1 with
      | .nx ρ2 => forGo t b xs ρ2
      | .ct ρ2 => forGo t b xs ρ2
      | .bk ρ2 => .nx ρ2
      | o => o

def R.to (x : R (Res × Rho)) (f : Res → Rho → XR) : XR :=
  match x with
  | .ok (r, ρ) => f r ρ | .exc c d ρ => .exc c d ρ | .bad => .bad
def XR.opt (f : Rho → XR) : Option Rho → XR
  | some ρ => f ρ | none => .bad
/-- an own list changed -/
def modR (ρ : Rho) (a : Nat) (f : D → Option D) : Option Rho :=
  match ρ[a]? with
  | some (.ow d) => (f d).map fun d' => ρ.set a (.ow d')
  | some (.io d) => (f d).map fun d' => ρ.set a (.io d')
  | _ => none
/-- a store at a place -/
def setAt (i : D) (v : D) : D → Option D
  | .lst xs => match i with
    | .int k => (L2.ixN xs.length k).map fun j => .lst (xs.set j v)
    | _ => none
  | _ => none
def putFd (f : Nat) (v : D) : List (Nat × D) → List (Nat × D)
  | [] => [(f, v)]
  | (g, w) :: r => if g = f then (f, v) :: r else (g, w) :: putFd f v r
def setFd (fok : Nat → Nat → Bool) (f : Nat) (v : D) : D → Option D
  | .ins c fs => if fok c f && decide (fs.length < 900) then some (.ins c (putFd f v fs)) else none
  | _ => none
def appD (v : D) : D → Option D
  | .lst xs => if ltLen xs.length then some (.lst (xs ++ [v])) else none
  | _ => none
def popD : D → Option D
  | .lst xs => if xs.length = 0 then none else some (.lst xs.dropLast)
  | _ => none
def extD (v : D) : D → Option D
  | .lst xs => match v with
    | .lst ys => if okLen (xs.length + ys.length) then some (.lst (xs ++ ys)) else none
    | _ => none
  | _ => none
def tstR (x : R (Opd × Rho)) : R (Bool × Rho) :=
  x.bind fun (x, ρ) => match x.get ρ with
    | some (.bl b) => .ok (b, ρ) | _ => .bad
def tst (c : E) (ρ : Rho) : R (Bool × Rho) := tstR (pk c (ev W c) ρ)
def brX (x : R (Bool × Rho)) (f g : Rho → XR) : XR :=
  match x with
  | .ok (true, ρ) => f ρ | .ok (false, ρ) => g ρ | .exc c d ρ => .exc c d ρ | .bad => .bad

/-- a name that must stand -/
def gd (ρ : Rho) (a : Nat) (x : XR) : XR :=
  match (Opd.at a).get ρ with
  | some _ => x | none => .bad
/-- a name that must hold a list -/
def gdl (ρ : Rho) (a : Nat) (x : XR) : XR :=
  match (Opd.at a).get ρ with
  | some (.lst _) => x | _ => .bad
mutual
noncomputable def ex : S → Rho → XR
  | .set i e, ρ => (ev W e ρ).to fun r ρ1 => XR.opt .nx (setR ρ1 i r.slot)
  | .par i j a b, ρ => (ev W a ρ).to fun r ρ1 => (ev W b ρ1).to fun r' ρ2 =>
      XR.opt (fun ρ3 => XR.opt .nx (setR ρ3 j (.sh r'.d))) (setR ρ2 i (.sh r.d))
  | .unp t e, ρ => (ev W e ρ).to fun r ρ1 => XR.opt .nx (bindT t r.d ρ1)
  | .setIx a i e, ρ => (ev W e ρ).to fun r ρ1 => gd ρ1 a ((ev W i ρ1).to fun k ρ2 => XR.opt .nx (modR ρ2 a (setAt k.d r.d)))
  | .augIx op a i e, ρ => gd ρ a ((ev W i ρ).to fun k ρ1 =>
      match (Opd.at a).get ρ1 with
      | some (.lst xs) => (match ixD (.lst xs) k.d with
        | some (.int x) => (ev W e ρ1).to fun r ρ2 => (match r.d with
          | .int y => (match aop op x y with
            | some z => XR.opt .nx (modR ρ2 a (setAt k.d (.int z)))
            | none => .bad)
          | _ => .bad)
        | _ => .bad)
      | _ => .bad)
  | .aug op i e, ρ => gd ρ i ((ev W e ρ).to fun r ρ1 =>
      match ρ1[i]? with
      | some (.sh (.int x)) => (match r.d with
        | .int y => (match aop op x y with
          | some z => XR.opt .nx (setR ρ1 i (.sh (.int z)))
          | none => .bad)
        | _ => .bad)
      | _ => .bad)
  | .setFld a f e, ρ => (ev W e ρ).to fun r ρ1 => XR.opt .nx (modR ρ1 a (setFd W.fok f r.d))
  | .app a e, ρ => gdl ρ a ((ev W e ρ).to fun r ρ1 => XR.opt .nx (modR ρ1 a (appD r.d)))
  | .pop a, ρ => XR.opt .nx (modR ρ a popD)
  | .ext a e, ρ => gdl ρ a ((ev W e ρ).to fun r ρ1 => XR.opt .nx (modR ρ1 a (extD r.d)))
  | .expr e, ρ => (ev W e ρ).to fun _ ρ1 => .nx ρ1
  | .ret e, ρ => (ev W e ρ).to fun r ρ1 => .rt r ρ1
  | .retN, ρ => .rt (.sh .non) ρ
  | .ite c a b, ρ => brX (tst W c ρ) (exs a) (exs b)
  | .whl c b, ρ => loopW (tst W c) (exs b) ρ
  | .for_ t it b, ρ => match evI W it ρ with
    | .ok (xs, ρ1) => forGo t (exs b) xs ρ1
    | .exc c d ρ1 => .exc c d ρ1
    | .bad => .bad
  | .raise c e, ρ => (ev W e ρ).to fun r ρ1 => .exc c r.d ρ1
  | .try_ b c i h, ρ => match exs b ρ with
    | .exc k d ρ1 => match W.sub k c with
      | some true =>
        XR.opt (fun ρ2 => match exs h ρ2 with
          | .nx ρ3 => XR.opt .nx (setR ρ3 i .no)
          | .rt r ρ3 => .rt r ρ3
          | .bk ρ3 => XR.opt .bk (setR ρ3 i .no)
          | .ct ρ3 => XR.opt .ct (setR ρ3 i .no)
          | _ => .bad) (setR ρ1 i (.sh (.exc k d)))
      | some false => .exc k d ρ1
      | none => .bad
    | o => o
  | .pass, ρ => .nx ρ
  | .brk, ρ => .bk ρ
  | .cont, ρ => .ct ρ
noncomputable def exs : List S → Rho → XR
  | [], ρ => .nx ρ
  | s :: r, ρ => match ex s ρ with
    | .nx ρ1 => exs r ρ1
    | o => o
end
end
structure Pr where
  defs : Nat → Option Def
  meth : Nat → Nat → Option Nat
  init : Nat → Option Nat
  sub : Nat → Nat → Option Bool
  fok : Nat → Nat → Bool
  eok : Nat → Bool
def Pr.wd (p : Pr) (cf : CallFn) : Wd := ⟨cf, p.meth, p.init, p.sub, p.fok, p.eok⟩
def keepIo : Slot → Slot
  | .io d => .io d | _ => .no
noncomputable def callP (p : Pr) : Nat → CallFn
  | 0 => fun _ _ => .bad
  | n + 1 => fun f ss => match p.defs f with
    | none => .bad
    | some df => if ss.length = df.np then
        (match exs (p.wd (callP p n)) df.body (ss ++ List.replicate (df.ns - df.np) .no) with
        | .nx ρ => .ok (.sh .non) ((ρ.take df.np).map keepIo)
        | .rt r ρ => .ok r ((ρ.take df.np).map keepIo)
        | .exc c d _ => .exc c d
        | _ => .bad)
      else .bad
end Dp
/-! How plain values lie in the heap. -/
namespace Dp
open PySem PySem.Spec PyProof.Rows L2

abbrev St := L2.St
structure Gx where
  K : PySem.W.Frag
  cls : Nat → Addr
  fld : Nat → Str
  nf : Nat
  inj : ∀ i j, i < nf → j < nf → fld i = fld j → i = j
  v0 : 0 < nf
  vn : fld 0 = "value"

/-- a caught exception at a, of the class at C, its own dict at dd -/
def exH (C a dd : Addr) : HO := .ext fun h => ∃ o vs, h.get? a = some o ∧ o.cls = .ref C ∧ o.dict = some dd ∧ o.data = .fields vs

mutual
/-- the value v is d, by what is written and what lies in F (never changed again) -/
def Rep (G : Gx) (F : Hp) : D → V → Prop
  | .non, v => v = .non
  | .bl b, v => v = .bl b
  | .int i, v => v = .int i
  | .str s, v => v = .str s
  | .tup xs, v => ∃ a vs, v = .ref a ∧ SqT G.K F a vs ∧ RepL G F xs vs
  | .lst xs, v => ∃ a vs, v = .ref a ∧ F a = some (.lst vs) ∧ RepL G F xs vs
  | .scr xs, v => ∃ a, v = .ref a ∧ SqL G.K F a (xs.map V.int)
  | .ins c fs, v => ∃ a dx gs, v = .ref a ∧ F a = some (.ins (G.cls c) dx gs) ∧ F dx = some (.own a) ∧ RepF G F fs gs
  | .exc c d, v => ∃ a dd u, v = .ref a ∧ F a = some (exH (G.cls c) a dd) ∧ F dd = some (.xd [(("value" : Str), u)]) ∧ Rep G F d u
def RepL (G : Gx) (F : Hp) : List D → List V → Prop
  | [], vs => vs = []
  | x :: xs, vs => ∃ u us, vs = u :: us ∧ Rep G F x u ∧ RepL G F xs us
def RepF (G : Gx) (F : Hp) : List (Nat × D) → List (Str × V) → Prop
  | [], gs => gs = []
  | (k, d) :: fs, gs => k < G.nf ∧ ∃ u us, gs = (G.fld k, u) :: us ∧ Rep G F d u ∧ RepF G F fs us
end

section
variable {G : Gx} {F F' H H' : Hp}
theorem rd_mono {a : Addr} {u : HO} (e : Same H H') (h : Rd H a u) : Rd H' a u := by
  rcases h with h | ⟨o, h⟩
  · exact .inl (e _ _ h)
  · exact .inr ⟨o, e _ _ h⟩
theorem sqt_mono {K : PySem.W.Frag} {a : Addr} {xs : List V} (e : Same H H') (h : SqT K H a xs) : SqT K H' a xs := by
  rcases h with (h | ⟨o, h⟩) | h
  · exact .inl (.inl (e _ _ h))
  · exact .inl (.inr ⟨o, e _ _ h⟩)
  · exact .inr h
mutual
theorem Rep.mono (e : Same F F') : ∀ {d : D} {v : V}, Rep G F d v → Rep G F' d v
  | .non, _, h | .bl _, _, h | .int _, _, h | .str _, _, h => by unfold Rep at h ⊢; exact h
  | .tup xs, v, h => by
    unfold Rep at h ⊢
    obtain ⟨a, vs, h1, h2, h3⟩ := h
    exact ⟨a, vs, h1, sqt_mono e h2, RepL.mono e h3⟩
  | .lst xs, v, h => by
    unfold Rep at h ⊢
    obtain ⟨a, vs, h1, h2, h3⟩ := h
    exact ⟨a, vs, h1, e _ _ h2, RepL.mono e h3⟩
  | .scr xs, v, h => by
    unfold Rep at h ⊢
    obtain ⟨a, h1, h2⟩ := h
    exact ⟨a, h1, e.seq h2⟩
  | .ins c fs, v, h => by
    unfold Rep at h ⊢
    obtain ⟨a, dx, gs, h1, h2, h3, h4⟩ := h
    exact ⟨a, dx, gs, h1, e _ _ h2, e _ _ h3, RepF.mono e h4⟩
  | .exc c d, v, h => by
    unfold Rep at h ⊢
    obtain ⟨a, dd, u, h1, h2, h3, h4⟩ := h
    exact ⟨a, dd, u, h1, e _ _ h2, e _ _ h3, Rep.mono e h4⟩
theorem RepL.mono (e : Same F F') : ∀ {xs : List D} {vs : List V}, RepL G F xs vs → RepL G F' xs vs
  | [], _, h => by unfold RepL at h ⊢; exact h
  | x :: xs, _, h => by
    unfold RepL at h ⊢
    obtain ⟨u, us, h1, h2, h3⟩ := h
    exact ⟨u, us, h1, Rep.mono e h2, RepL.mono e h3⟩
theorem RepF.mono (e : Same F F') : ∀ {xs : List (Nat × D)} {vs : List (Str × V)}, RepF G F xs vs → RepF G F' xs vs
  | [], _, h => by unfold RepF at h ⊢; exact h
  | (k, d) :: xs, _, h => by
    unfold RepF at h ⊢
    obtain ⟨hk, u, us, h1, h2, h3⟩ := h
    exact ⟨hk, u, us, h1, Rep.mono e h2, RepF.mono e h3⟩
end
theorem RepL.len : ∀ {xs : List D} {vs : List V}, RepL G F xs vs → vs.length = xs.length
  | [], _, h => by unfold RepL at h; subst h; rfl
  | x :: xs, _, h => by
    unfold RepL at h
    obtain ⟨u, us, rfl, _, h3⟩ := h
    simp [RepL.len h3]
theorem RepL.get : ∀ {xs : List D} {vs : List V} {i : Nat} {x : D}, RepL G F xs vs → xs[i]? = some x → ∃ v, vs[i]? = some v ∧ Rep G F x v
  | [], _, _, _, _, e => by simp at e
  | y :: xs, _, 0, x, h, e => by
    unfold RepL at h
    obtain ⟨u, us, rfl, h2, h3⟩ := h
    simp at e; subst e
    exact ⟨u, rfl, h2⟩
  | y :: xs, _, i + 1, x, h, e => by
    unfold RepL at h
    obtain ⟨u, us, rfl, h2, h3⟩ := h
    obtain ⟨v, h4, h5⟩ := RepL.get (i := i) h3 (by simpa using e)
    exact ⟨v, by simpa using h4, h5⟩
theorem RepL.getV {xs : List D} {vs : List V} {i : Nat} {v : V} (h : RepL G F xs vs) (e : vs[i]? = some v) : ∃ x, xs[i]? = some x ∧ Rep G F x v := by
  have hi : i < xs.length := by
    have := (List.getElem?_eq_some_iff.mp e).1
    rw [h.len] at this; exact this
  obtain ⟨u, h1, h2⟩ := h.get (List.getElem?_eq_getElem hi)
  rw [e] at h1; cases h1
  exact ⟨_, List.getElem?_eq_getElem hi, h2⟩
theorem RepL.append : ∀ {xs ys : List D} {vs ws : List V}, RepL G F xs vs → RepL G F ys ws → RepL G F (xs ++ ys) (vs ++ ws)
  | [], _, _, _, h, k => by unfold RepL at h; subst h; exact k
  | x :: xs, _, _, _, h, k => by
    unfold RepL at h
    obtain ⟨u, us, rfl, h2, h3⟩ := h
    show RepL G F (x :: (xs ++ _)) _
    unfold RepL
    exact ⟨u, _, rfl, h2, h3.append k⟩
theorem RepL.one {x : D} {v : V} (h : Rep G F x v) : RepL G F [x] [v] := by unfold RepL; exact ⟨v, [], rfl, h, by unfold RepL; rfl⟩
theorem RepL.nil : RepL G F [] [] := by unfold RepL; rfl
theorem RepL.cons {x : D} {v : V} {xs : List D} {vs : List V} (h : Rep G F x v) (k : RepL G F xs vs) : RepL G F (x :: xs) (v :: vs) := by unfold RepL; exact ⟨v, vs, rfl, h, k⟩
theorem RepL.take : ∀ {xs : List D} {vs : List V} (n : Nat), RepL G F xs vs → RepL G F (xs.take n) (vs.take n)
  | _, _, 0, _ => by simpa using RepL.nil
  | [], _, n + 1, h => by unfold RepL at h; subst h; exact RepL.nil
  | x :: xs, _, n + 1, h => by
    unfold RepL at h
    obtain ⟨u, us, rfl, h2, h3⟩ := h
    exact RepL.cons h2 (h3.take n)
theorem RepL.drop : ∀ {xs : List D} {vs : List V} (n : Nat), RepL G F xs vs → RepL G F (xs.drop n) (vs.drop n)
  | _, _, 0, h => h
  | [], _, n + 1, h => by unfold RepL at h; subst h; exact RepL.nil
  | x :: xs, _, n + 1, h => by
    unfold RepL at h
    obtain ⟨u, us, rfl, h2, h3⟩ := h
    exact h3.drop n
theorem RepL.set : ∀ {xs : List D} {vs : List V} {x : D} {v : V} (n : Nat), RepL G F xs vs → Rep G F x v → RepL G F (xs.set n x) (vs.set n v)
  | [], _, _, _, _, h, _ => by unfold RepL at h; subst h; exact RepL.nil
  | y :: xs, _, _, _, 0, h, k => by
    unfold RepL at h
    obtain ⟨u, us, rfl, h2, h3⟩ := h
    exact RepL.cons k h3
  | y :: xs, _, _, _, n + 1, h, k => by
    unfold RepL at h
    obtain ⟨u, us, rfl, h2, h3⟩ := h
    exact RepL.cons h2 (h3.set n k)
theorem RepL.reverse : ∀ {xs : List D} {vs : List V}, RepL G F xs vs → RepL G F xs.reverse vs.reverse
  | [], _, h => by unfold RepL at h; subst h; exact RepL.nil
  | x :: xs, _, h => by
    unfold RepL at h
    obtain ⟨u, us, rfl, h2, h3⟩ := h
    rw [List.reverse_cons, List.reverse_cons]
    exact h3.reverse.append (RepL.one h2)
theorem RepL.rep {xs : List D} {vs : List V} (h : RepL G F xs vs) : ∀ n, RepL G F (List.replicate n xs).flatten (List.replicate n vs).flatten
  | 0 => RepL.nil
  | n + 1 => by
    rw [List.replicate_succ, List.replicate_succ, List.flatten_cons, List.flatten_cons]
    exact h.append (h.rep n)
theorem RepL.dropLast {xs : List D} {vs : List V} (h : RepL G F xs vs) : RepL G F xs.dropLast vs.dropLast := by
  rw [List.dropLast_eq_take, List.dropLast_eq_take, h.len]
  exact h.take _
theorem RepF.lookup : ∀ {fs : List (Nat × D)} {gs : List (Str × V)} {f : Nat} {d : D}, f < G.nf → RepF G F fs gs → fs.lookup f = some d → ∃ u, gs.lookup (G.fld f) = some u ∧ Rep G F d u
  | [], _, _, _, _, _, e => by simp at e
  | (k, d) :: fs, _, f, d', hf, h, e => by
    unfold RepF at h
    obtain ⟨hk, u, us, rfl, h2, h3⟩ := h
    by_cases hkf : f = k
    · subst hkf
      rw [List.lookup_cons_self] at e; cases e
      exact ⟨u, by rw [List.lookup_cons_self], h2⟩
    · have b1 : (f == k) = false := by simpa using hkf
      have b2 : (G.fld f == G.fld k) = false := by
        have : ¬ G.fld f = G.fld k := fun z => hkf (G.inj _ _ hf hk z)
        simpa using this
      rw [List.lookup_cons, b1] at e
      obtain ⟨u', h4, h5⟩ := RepF.lookup hf h3 e
      exact ⟨u', by rw [List.lookup_cons, b2]; exact h4, h5⟩
theorem RepF.none : ∀ {fs : List (Nat × D)} {gs : List (Str × V)} {f : Nat}, f < G.nf → RepF G F fs gs → fs.lookup f = none → gs.lookup (G.fld f) = none
  | [], _, _, _, h, _ => by unfold RepF at h; subst h; rfl
  | (k, d) :: fs, _, f, hf, h, e => by
    unfold RepF at h
    obtain ⟨hk, u, us, rfl, h2, h3⟩ := h
    have hkf : ¬ f = k := fun z => by subst z; rw [List.lookup_cons_self] at e; cases e
    have b1 : (f == k) = false := by simpa using hkf
    have b2 : (G.fld f == G.fld k) = false := by
      have : ¬ G.fld f = G.fld k := fun z => hkf (G.inj _ _ hf hk z)
      simpa using this
    rw [List.lookup_cons, b1] at e
    rw [List.lookup_cons, b2]
    exact RepF.none hf h3 e
/-- no field has this other name -/
theorem RepF.other {m : Str} (hm : ∀ k, k < G.nf → G.fld k ≠ m) : ∀ {fs : List (Nat × D)} {gs : List (Str × V)}, RepF G F fs gs → gs.lookup m = Option.none
  | [], _, h => by unfold RepF at h; subst h; rfl
  | (k, d) :: fs, _, h => by
    unfold RepF at h
    obtain ⟨hk, u, us, rfl, h2, h3⟩ := h
    have b2 : (m == G.fld k) = false := by
      have : ¬ m = G.fld k := fun z => hm k hk z.symm
      simpa using this
    rw [List.lookup_cons, b2]
    exact RepF.other hm h3
theorem RepF.len : ∀ {xs : List (Nat × D)} {vs : List (Str × V)}, RepF G F xs vs → vs.length = xs.length
  | [], _, h => by unfold RepF at h; subst h; rfl
  | (k, d) :: xs, _, h => by
    unfold RepF at h
    obtain ⟨_, u, us, rfl, _, h3⟩ := h
    simp [RepF.len h3]
theorem RepF.put {f : Nat} {d : D} {v : V} (hf : f < G.nf) (hv : Rep G F d v) : ∀ {fs : List (Nat × D)} {gs : List (Str × V)}, RepF G F fs gs → RepF G F (putFd f d fs) (putF (G.fld f) v gs)
  | [], _, h => by
    unfold RepF at h; subst h
    show RepF G F [(f, d)] [(G.fld f, v)]
    unfold RepF
    exact ⟨hf, v, [], rfl, hv, by unfold RepF; rfl⟩
  | (k, e) :: fs, _, h => by
    unfold RepF at h
    obtain ⟨hk, u, us, rfl, h2, h3⟩ := h
    show RepF G F (if k = f then (f, d) :: fs else (k, e) :: putFd f d fs) (if G.fld k = G.fld f then (G.fld k, v) :: us else (G.fld k, u) :: putF (G.fld f) v us)
    by_cases hkf : k = f
    · subst hkf
      rw [if_pos rfl, if_pos rfl]
      unfold RepF
      exact ⟨hk, v, us, rfl, hv, h3⟩
    · have n : ¬ G.fld k = G.fld f := fun z => hkf (G.inj _ _ hk hf z)
      rw [if_neg hkf, if_neg n]
      unfold RepF
      exact ⟨hk, u, _, rfl, h2, RepF.put hf hv h3⟩
end

/-- an object of one's own, at a: its content lies in H, what it holds in F -/
def Own (G : Gx) (F H : Hp) (d : D) (a : Addr) : Prop :=
  F a = none ∧ match d with
    | .lst xs => ∃ vs, H a = some (.lst vs) ∧ RepL G F xs vs
    | .ins c fs => ∃ dx gs, H a = some (.ins (G.cls c) dx gs) ∧ H dx = some (.own a) ∧ F dx = none ∧ RepF G F fs gs
    | _ => False
theorem Own.there {G : Gx} {F H : Hp} {d : D} {a : Addr} (h : Own G F H d a) : H a ≠ none := by
  obtain ⟨_, h⟩ := h
  cases d with
  | lst xs => obtain ⟨vs, e, _⟩ := h; rw [e]; simp
  | ins c fs => obtain ⟨dx, gs, e, _⟩ := h; rw [e]; simp
  | _ => exact h.elim
theorem Own.notOwn {G : Gx} {F H : Hp} {d : D} {a b : Addr} (h : Own G F H d a) : H a ≠ some (.own b) := by
  obtain ⟨_, h⟩ := h
  cases d with
  | lst xs => obtain ⟨vs, e, _⟩ := h; rw [e]; simp
  | ins c fs => obtain ⟨dx, gs, e, _⟩ := h; rw [e]; simp
  | _ => exact h.elim
/-- it stays where nothing of it is touched -/
theorem Own.keep {G : Gx} {F H F' H' : Hp} {d : D} {a : Addr} (h : Own G F H d a) (m : Same F F') (fa : F' a = none) (ha : ∀ o, H a = some o → H' a = some o)
    (hd : ∀ dx, H dx = some (.own a) → H' dx = some (.own a) ∧ (F dx = none → F' dx = none)) : Own G F' H' d a := by
  obtain ⟨_, h⟩ := h
  refine ⟨fa, ?_⟩
  cases d with
  | lst xs => obtain ⟨vs, e, r⟩ := h; exact ⟨vs, ha _ e, r.mono m⟩
  | ins c fs => obtain ⟨dx, gs, e, e2, e3, r⟩ := h; exact ⟨dx, gs, ha _ e, (hd _ e2).1, (hd _ e2).2 e3, r.mono m⟩
  | _ => exact h.elim

def isOw (ρ : Rho) (i : Nat) (d : D) : Prop := ρ[i]? = some (.ow d) ∨ ρ[i]? = some (.io d)
def own (σ : St) (ρ : Rho) (a : Addr) : Prop := ∃ i d, isOw ρ i d ∧ σ[i]? = some (some (.ref a))
def foot (H : Hp) (σ : St) (ρ : Rho) (a : Addr) : Prop := own σ ρ a ∨ ∃ b, H a = some (.own b) ∧ own σ ρ b

structure Ok (G : Gx) (F H : Hp) (σ : St) (ρ : Rho) : Prop where
  len : σ.length = ρ.length
  le : Same F H
  sh : ∀ (i : Nat) (d : D), ρ[i]? = some (.sh d) → ∃ v, σ[i]? = some (some v) ∧ Rep G F d v
  ow : ∀ (i : Nat) (d : D), isOw ρ i d → ∃ a, σ[i]? = some (some (.ref a)) ∧ Own G F H d a
  nd : ∀ (i j : Nat) (d e : D) (a : Addr), i ≠ j → isOw ρ i d → isOw ρ j e → σ[i]? = some (some (.ref a)) → σ[j]? = some (some (.ref a)) → False
  dct : ∀ a b, H a = some (.own b) → H b ≠ none

structure Go (G : Gx) (F H : Hp) (σ : St) (ρ : Rho) (F' H' : Hp) (σ' : St) (ρ' : Rho) : Prop where
  ok : Ok G F' H' σ' ρ'
  mono : Same F F'
  keep : ∀ a o, H a = some o → ¬ own σ ρ a → H' a = some o
  keepF : ∀ a, H a ≠ none → ¬ foot H σ ρ a → F a = none → F' a = none
  there : ∀ a, H a ≠ none → H' a ≠ none
  shape : ∀ a b, H' a = some (.own b) → H a = none ∨ H a = some (.own b)
  own : ∀ a, own σ' ρ' a → own σ ρ a ∨ H a = none
  io : ∀ (i : Nat) (d : D), ρ[i]? = some (.io d) → (∃ d', ρ'[i]? = some (.io d')) ∧ σ'[i]? = σ[i]?

section
variable {G : Gx} {F H F1 H1 F2 H2 F' H' : Hp} {σ σ1 σ2 σ' : St} {ρ ρ1 ρ2 ρ' : Rho}
theorem Go.refl (ok : Ok G F H σ ρ) : Go G F H σ ρ F H σ ρ :=
  ⟨ok, fun _ _ h => h, fun _ _ h _ => h, fun _ _ _ h => h, fun _ h => h, fun _ _ h => .inr h, fun _ h => .inl h, fun _ d h => ⟨⟨d, h⟩, rfl⟩⟩
theorem Go.trans (ok : Ok G F H σ ρ) (s : Go G F H σ ρ F1 H1 σ1 ρ1) (t : Go G F1 H1 σ1 ρ1 F2 H2 σ2 ρ2) : Go G F H σ ρ F2 H2 σ2 ρ2 where
  ok := t.ok
  mono := fun a o h => t.mono a o (s.mono a o h)
  keep := fun a o h n => t.keep a o (s.keep a o h n) fun z => by
    rcases s.own a z with z | z
    · exact n z
    · rw [z] at h; cases h
  keepF := fun a h n f => t.keepF a (s.there a h) (fun z => by
    obtain ⟨o, ho⟩ := Option.ne_none_iff_exists'.mp h
    have no : ¬ Dp.own σ ρ a := fun q => n (.inl q)
    rcases z with z | ⟨b, hb, z⟩
    · rcases s.own a z with z | z
      · exact no z
      · exact h z
    · have e := s.keep a o ho no
      rw [e] at hb; cases hb
      rcases s.own b z with z | z
      · exact n (.inr ⟨b, ho, z⟩)
      · exact ok.dct _ _ ho z) (s.keepF a h n f)
  there := fun a h => t.there a (s.there a h)
  shape := fun a b h => by
    rcases t.shape a b h with h | h
    · exact .inl (by
        cases e : H a with
        | none => rfl
        | some o => exact absurd h (s.there a (by rw [e]; simp)))
    · exact s.shape a b h
  own := fun a h => by
    rcases t.own a h with h | h
    · exact s.own a h
    · refine .inr ?_
      cases e : H a with
      | none => rfl
      | some o => exact absurd h (s.there a (by rw [e]; simp))
  io := fun i d h => by
    obtain ⟨⟨d1, h1⟩, e1⟩ := s.io i d h
    obtain ⟨h2, e2⟩ := t.io i d1 h1
    exact ⟨h2, e2.trans e1⟩

/-- a value as a result tells how it is held: behind a step from H, σ, ρ -/
def ResRep (G : Gx) (H : Hp) (σ : St) (ρ : Rho) (F' H' : Hp) (σ' : St) (ρ' : Rho) (v : V) : Res → Prop
  | .sh d => Rep G F' d v
  | .fr d => ∃ a, v = .ref a ∧ Own G F' H' d a ∧ ¬ Dp.own σ' ρ' a ∧ (H a = none ∨ Dp.own σ ρ a)
theorem ResRep.back (s : Go G F H σ ρ F1 H1 σ1 ρ1) {v : V} {r : Res} (h : ResRep G H1 σ1 ρ1 F' H' σ' ρ' v r) : ResRep G H σ ρ F' H' σ' ρ' v r := by
  cases r with
  | sh d => exact h
  | fr d =>
    obtain ⟨a, e, o, n, z⟩ := h
    refine ⟨a, e, o, n, ?_⟩
    rcases z with z | z
    · refine .inl ?_
      cases e : H a with
      | none => rfl
      | some o => exact absurd z (s.there a (by rw [e]; simp))
    · exact (s.own a z).symm

/-- an object no longer changed: it lies in the frozen part from now on -/
theorem freeze (ok0 : Ok G F H σ ρ) (s : Go G F H σ ρ F' H' σ' ρ') {v : V} {r : Res} (h : ResRep G H σ ρ F' H' σ' ρ' v r) : ∃ F2, Go G F H σ ρ F2 H' σ' ρ' ∧ Same F' F2 ∧ Rep G F2 r.d v := by
  cases r with
  | sh d => exact ⟨F', s, fun _ _ h => h, h⟩
  | fr d =>
    obtain ⟨a, rfl, o, n, z⟩ := h
    have fa := o.1
    have notown : ∀ b, Dp.own σ' ρ' b → b ≠ a := fun b hb e => n (e ▸ hb)
    have footA : H a ≠ none → foot H σ ρ a := fun h => z.elim (fun z => absurd z h) .inl
    obtain ⟨_, od⟩ := o
    cases d with
    | lst xs =>
      obtain ⟨vs, e, r⟩ := od
      have m : Same F' (upd F' a (.lst vs)) := fun b u hb => by rw [upd_ne (ne_of_none hb fa)]; exact hb
      refine ⟨upd F' a (.lst vs), ⟨⟨s.ok.len, fun b u hb => ?_, fun i d h => ?_, fun i d h => ?_, s.ok.nd, s.ok.dct⟩, fun b u hb => m _ _ (s.mono b u hb), s.keep, fun b h1 h2 h3 => ?_, s.there, s.shape, s.own, s.io⟩, m, ?_⟩
      · by_cases hba : b = a
        · subst hba; rw [upd_same] at hb; cases hb; exact e
        · rw [upd_ne hba] at hb; exact s.ok.le _ _ hb
      · obtain ⟨v, h1, h2⟩ := s.ok.sh i d h
        exact ⟨v, h1, h2.mono m⟩
      · obtain ⟨b, h1, h2⟩ := s.ok.ow i d h
        have nb : b ≠ a := notown b ⟨i, d, h, h1⟩
        refine ⟨b, h1, h2.keep m (by rw [upd_ne nb]; exact h2.1) (fun _ q => q) fun dx q => ⟨q, fun w => ?_⟩⟩
        rw [upd_ne]; exact w
        intro z; subst z; rw [e] at q; cases q
      · have nb : b ≠ a := fun z => by subst z; exact h2 (footA h1)
        rw [upd_ne nb]; exact s.keepF b h1 h2 h3
      · show Rep G _ (.lst xs) _
        unfold Rep
        exact ⟨a, vs, rfl, upd_same, r.mono m⟩
    | ins c fs =>
      obtain ⟨dx, gs, e, e2, e3, r⟩ := od
      have ne : dx ≠ a := fun z => by subst z; rw [e] at e2; cases e2
      have m1 : Same F' (upd F' dx (.own a)) := fun b u hb => by rw [upd_ne (ne_of_none hb e3)]; exact hb
      have fa1 : (upd F' dx (.own a)) a = none := by rw [upd_ne (Ne.symm ne)]; exact fa
      have m : Same F' (upd (upd F' dx (.own a)) a (.ins (G.cls c) dx gs)) := fun b u hb => by rw [upd_ne (ne_of_none hb fa)]; exact m1 _ _ hb
      refine ⟨upd (upd F' dx (.own a)) a (.ins (G.cls c) dx gs), ⟨⟨s.ok.len, fun b u hb => ?_, fun i d h => ?_, fun i d h => ?_, s.ok.nd, s.ok.dct⟩, fun b u hb => m _ _ (s.mono b u hb), s.keep, fun b h1 h2 h3 => ?_, s.there, s.shape, s.own, s.io⟩, m, ?_⟩
      · by_cases hba : b = a
        · subst hba; rw [upd_same] at hb; cases hb; exact e
        · rw [upd_ne hba] at hb
          by_cases hbd : b = dx
          · subst hbd; rw [upd_same] at hb; cases hb; exact e2
          · rw [upd_ne hbd] at hb; exact s.ok.le _ _ hb
      · obtain ⟨v, h1, h2⟩ := s.ok.sh i d h
        exact ⟨v, h1, h2.mono m⟩
      · obtain ⟨b, h1, h2⟩ := s.ok.ow i d h
        have nb : b ≠ a := notown b ⟨i, d, h, h1⟩
        have nd : b ≠ dx := fun z => h2.notOwn (z ▸ e2)
        refine ⟨b, h1, h2.keep m (by rw [upd_ne nb, upd_ne nd]; exact h2.1) (fun _ q => q) fun dy q => ⟨q, fun w => ?_⟩⟩
        have n1 : dy ≠ a := fun z => by subst z; rw [e] at q; cases q
        have n2 : dy ≠ dx := fun z => by subst z; rw [e2] at q; cases q; exact nb rfl
        rw [upd_ne n1, upd_ne n2]; exact w
      · have nb : b ≠ a := fun z => by subst z; exact h2 (footA h1)
        have nd : b ≠ dx := fun q => by
          subst q
          rcases s.shape _ _ e2 with w | w
          · exact h1 w
          · have ha : H a ≠ none := ok0.dct _ _ w
            rcases footA ha with p | ⟨c', p, _⟩
            · exact h2 (.inr ⟨a, w, p⟩)
            · rcases z with z | z
              · exact ha z
              · exact h2 (.inr ⟨a, w, z⟩)
        rw [upd_ne nb, upd_ne nd]; exact s.keepF b h1 h2 h3
      · show Rep G _ (.ins c fs) _
        unfold Rep
        refine ⟨a, dx, gs, rfl, upd_same, ?_, r.mono m⟩
        rw [upd_ne ne]; exact upd_same
    | _ => exact od.elim
end
end Dp
/-! Expressions: what the walk asks, from what the plain language computes. -/
namespace Dp
open PySem PySem.Spec PyProof.Rows L2

/-- readable as d: frozen, or an own object as it is now -/
def Rdv (G : Gx) (F H : Hp) (d : D) (v : V) : Prop := Rep G F d v ∨ ∃ a, v = .ref a ∧ Own G F H d a

def contV (G : Gx) (F H : Hp) (σ : St) (ρ : Rho) (r : Res) (Q : VK) : Prop :=
  ∀ v F' H', Go G F H σ ρ F' H' σ ρ → ResRep G H σ ρ F' H' σ ρ v r → Q v H'

/-- an error's value lies so -/
def excAt (F : Hp) (dd : Addr) (u : V) : Prop := F dd = some (.xd [(("value" : Str), u)])

section
variable (G : Gx) (Wx : WX)
def excK (F H : Hp) (σ : St) (ρ : Rho) (c : Nat) (d : D) (ρ' : Rho) (σ' : St) : Prop :=
  ∀ F' H' dd u, Go G F H σ ρ F' H' σ' ρ' → excAt F' dd u → Rep G F' d u → Wx (.ref (G.cls c)) (some dd) σ' H'
def rdR (x : R (Res × Rho)) (F H : Hp) (σ : St) (ρ : Rho) (Q : VK) : Prop :=
  match x with
  | .ok (r, ρ') => ∀ v F' H', Go G F H σ ρ F' H' σ ρ' → ResRep G H σ ρ F' H' σ ρ' v r → Q v H'
  | .exc c d ρ' => excK G Wx F H σ ρ c d ρ' σ
  | .bad => False
def OpdRep (F : Hp) (σ : St) (v : V) : Opd → Prop
  | .at i => σ[i]? = some (some v)
  | .val d => Rep G F d v
def rdPR (x : R (Opd × Rho)) (F H : Hp) (σ : St) (ρ : Rho) (Q : VK) : Prop :=
  match x with
  | .ok (o, ρ') => ∀ v F' H', Go G F H σ ρ F' H' σ ρ' → OpdRep G F' σ v o → Q v H'
  | .exc c d ρ' => excK G Wx F H σ ρ c d ρ' σ
  | .bad => False
/-- an expression's reading -/
def rdF (f : Rho → R (Res × Rho)) : TE := fun σ H Q => ∃ F ρ, Ok G F H σ ρ ∧ rdR G Wx (f ρ) F H σ ρ Q
def rdPF (f : Rho → R (Opd × Rho)) : TE := fun σ H Q => ∃ F ρ, Ok G F H σ ρ ∧ rdPR G Wx (f ρ) F H σ ρ Q
end
abbrev rdE (G : Gx) (W : Wd) (Wx : WX) (e : E) : TE := rdF G Wx (ev W e)
abbrev rdP (G : Gx) (W : Wd) (Wx : WX) (e : E) : TE := rdPF G Wx (pk e (ev W e))
def isSlot : E → Bool
  | .slot _ => true | _ => false

section
variable {X : Cx} {G : Gx} {W : Wd} {Wx : WX}
theorem pe_imp {e : Expr} {t t' : TE} (h : PE X e t) (i : ∀ σ H Q, t' σ H Q → t σ H Q) : PE X e t' := ⟨fun pins s σ H Q I q => h.run pins s σ H Q I (i σ H Q q)⟩
theorem opd_at {i : Nat} {ρ : Rho} : (Opd.at i).get ρ = (match ρ[i]? with | some s => s.cont | none => none) := rfl
theorem excK.back {F H F1 H1 : Hp} {σ σ1 σ' : St} {ρ ρ1 ρ' : Rho} {c : Nat} {d : D} (ok : Ok G F H σ ρ) (g : Go G F H σ ρ F1 H1 σ1 ρ1) (k : excK G Wx F H σ ρ c d ρ' σ') : excK G Wx F1 H1 σ1 ρ1 c d ρ' σ' :=
  fun F' H' dd u g' h1 h2 => k F' H' dd u (g.trans ok g') h1 h2
theorem pk_ev {e : E} (h : isSlot e = false) (ρ : Rho) : pk e (ev W e) ρ = (ev W e ρ).bind fun (r, ρ') => .ok (.val r.d, ρ') := by
  cases e <;> first | rfl | cases h

/-- an operand that is no name -/
theorem pk_of {e : Expr} {e' : E} (h : PE X e (rdE G W Wx e')) (hs : isSlot e' = false := by rfl) : PE X e (rdP G W Wx e') := by
  refine pe_imp h fun σ H Q ⟨F, ρ, ok, q⟩ => ⟨F, ρ, ok, ?_⟩
  rw [pk_ev hs] at q
  cases r : ev W e' ρ with
  | bad => rw [r] at q; exact q
  | exc c d ρ' => rw [r] at q; exact q
  | ok p =>
    obtain ⟨r', ρ'⟩ := p
    rw [r] at q
    intro v F' H' g rr
    obtain ⟨F2, g2, m, rep⟩ := freeze ok g rr
    exact q v F2 H' g2 rep
/-- a name as an operand -/
theorem pk_slot {e : Expr} {i : Nat} (h : PE X e (tVar i)) : PE X e (rdP G W Wx (.slot i)) := by
  refine pe_imp h fun σ H Q ⟨F, ρ, ok, q⟩ => ?_
  have q' : rdPR G Wx (match (Opd.at i).get ρ with | some _ => .ok (.at i, ρ) | none => .bad) F H σ ρ Q := q
  cases e1 : (Opd.at i).get ρ with
  | none => rw [e1] at q'; exact q'.elim
  | some d =>
    rw [e1] at q'
    have e2 : ∃ s, ρ[i]? = some s ∧ s.cont = some d := by
      rw [opd_at] at e1
      cases e3 : ρ[i]? with
      | none => rw [e3] at e1; cases e1
      | some s => rw [e3] at e1; exact ⟨s, rfl, e1⟩
    obtain ⟨s, e3, e4⟩ := e2
    have : ∃ v, σ[i]? = some (some v) := by
      cases s with
      | no => cases e4
      | sh d' => obtain ⟨v, h1, _⟩ := ok.sh i d' e3; exact ⟨v, h1⟩
      | ow d' => obtain ⟨a, h1, _⟩ := ok.ow i d' (.inl e3); exact ⟨_, h1⟩
      | io d' => obtain ⟨a, h1, _⟩ := ok.ow i d' (.inr e3); exact ⟨_, h1⟩
    obtain ⟨v, hv⟩ := this
    exact ⟨v, hv, q' v F H (Go.refl ok) hv⟩

/-- an operand's content at the end -/
theorem opd_get {F1 F2 H2 : Hp} {σ : St} {ρ2 : Rho} {o : Opd} {v : V} {d : D} (m : Same F1 F2) (ok : Ok G F2 H2 σ ρ2) (r : OpdRep G F1 σ v o) (h : o.get ρ2 = some d) : Rdv G F2 H2 d v := by
  cases o with
  | val d' =>
    have e : d' = d := Option.some.inj h
    subst e
    exact .inl (Rep.mono m r)
  | «at» i =>
    rw [opd_at] at h
    cases e3 : ρ2[i]? with
    | none => rw [e3] at h; cases h
    | some s =>
      rw [e3] at h
      have r' : σ[i]? = some (some v) := r
      cases s with
      | no => cases h
      | sh d' =>
        have e : d' = d := Option.some.inj h
        subst e
        obtain ⟨w, h1, h2⟩ := ok.sh i d' e3
        rw [r'] at h1; cases h1
        exact .inl h2
      | ow d' =>
        have e : d' = d := Option.some.inj h
        subst e
        obtain ⟨a, h1, h2⟩ := ok.ow i d' (.inl e3)
        rw [r'] at h1; cases h1
        exact .inr ⟨a, rfl, h2⟩
      | io d' =>
        have e : d' = d := Option.some.inj h
        subst e
        obtain ⟨a, h1, h2⟩ := ok.ow i d' (.inr e3)
        rw [r'] at h1; cases h1
        exact .inr ⟨a, rfl, h2⟩

/-- after one operand -/
theorem rdPF_then {f : Rho → R (Opd × Rho)} {k : Opd → Rho → R (Res × Rho)} {F H : Hp} {σ : St} {ρ : Rho} {Q : VK} {Q1 : VK} (ok : Ok G F H σ ρ) (q : rdR G Wx ((f ρ).bind fun (x, ρ1) => k x ρ1) F H σ ρ Q)
    (h : ∀ x F1 H1 ρ1 o, Go G F H σ ρ F1 H1 σ ρ1 → OpdRep G F1 σ x o → rdR G Wx (k o ρ1) F1 H1 σ ρ1 Q → Q1 x H1) : rdPF G Wx f σ H Q1 := by
  refine ⟨F, ρ, ok, ?_⟩
  cases r : f ρ with
  | bad => rw [r] at q; exact q
  | exc c d ρ' => rw [r] at q; exact q
  | ok p =>
    obtain ⟨o, ρ1⟩ := p
    rw [r] at q
    intro v F1 H1 g rr
    refine h v F1 H1 ρ1 o g rr ?_
    have q' : rdR G Wx (k o ρ1) F H σ ρ Q := q
    cases r2 : k o ρ1 with
    | bad => rw [r2] at q'; exact q'
    | exc c d ρ' => rw [r2] at q'; exact excK.back ok g q'
    | ok p =>
      obtain ⟨r3, ρ3⟩ := p
      rw [r2] at q'
      intro v F' H' g' rr'
      exact q' v F' H' (g.trans ok g') (rr'.back g)
theorem rdF_then {f : Rho → R (Res × Rho)} {k : Res → Rho → R (Res × Rho)} {F H : Hp} {σ : St} {ρ : Rho} {Q : VK} {Q1 : VK} (ok : Ok G F H σ ρ) (q : rdR G Wx ((f ρ).bind fun (x, ρ1) => k x ρ1) F H σ ρ Q)
    (h : ∀ x F1 H1 ρ1 r, Go G F H σ ρ F1 H1 σ ρ1 → ResRep G H σ ρ F1 H1 σ ρ1 x r → rdR G Wx (k r ρ1) F1 H1 σ ρ1 Q → Q1 x H1) : rdF G Wx f σ H Q1 := by
  refine ⟨F, ρ, ok, ?_⟩
  cases r : f ρ with
  | bad => rw [r] at q; exact q
  | exc c d ρ' => rw [r] at q; exact q
  | ok p =>
    obtain ⟨o, ρ1⟩ := p
    rw [r] at q
    intro v F1 H1 g rr
    refine h v F1 H1 ρ1 o g rr ?_
    have q' : rdR G Wx (k o ρ1) F H σ ρ Q := q
    cases r2 : k o ρ1 with
    | bad => rw [r2] at q'; exact q'
    | exc c d ρ' => rw [r2] at q'; exact excK.back ok g q'
    | ok p =>
      obtain ⟨r3, ρ3⟩ := p
      rw [r2] at q'
      intro v F' H' g' rr'
      exact q' v F' H' (g.trans ok g') (rr'.back g)

/-! ### simple ones -/
/-- nothing changed: a value that needs no heap -/
theorem rd_ret {F H : Hp} {σ : St} {ρ : Rho} {r : Res} {v : V} {Q : VK} (ok : Ok G F H σ ρ) (q : rdR G Wx (.ok (r, ρ)) F H σ ρ Q) (h : ResRep G H σ ρ F H σ ρ v r) : Q v H := q v F H (Go.refl ok) h

theorem rep_cst {F : Hp} {d : D} {v : V} (h : cstV d = some v) : Rep G F d v := by
  cases d <;> first | (cases h; unfold Rep; rfl) | cases h
theorem c_cst {e : Expr} {d : D} {v : V} (h : PE X e (tC v)) (hv : cstV d = some v) : PE X e (rdE G W Wx (.cst d)) :=
  pe_imp h fun σ H Q ⟨F, ρ, ok, q⟩ => rd_ret ok q (rep_cst hv)
theorem c_int {i j pos} : PE X (.Constant (.int i) j pos) (rdE G W Wx (.cst (.int i))) := c_cst pe_int rfl
theorem c_bl {i j pos} : PE X (.Constant (.bool i) j pos) (rdE G W Wx (.cst (.bl i))) := c_cst pe_bl rfl
theorem c_non {j pos} : PE X (.Constant .none j pos) (rdE G W Wx (.cst .non)) := c_cst pe_non rfl
theorem c_str {i j pos} : PE X (.Constant (.str i) j pos) (rdE G W Wx (.cst (.str i))) := c_cst pe_str rfl
/-- a constant of the module that is written: its value lies in no heap of ours -/
theorem c_glob {x : Str} {u : Value} {d : D} {pos : Pos} (hm : X.mg x = some u) (hr : ∃ v, RelV v u ∧ ∀ F, Rep G F d v) (hg : Gl X x := by rfl) (hd : (x == ("__debug__" : Str)) = false := by decide) : PE X (.Name x pos) (rdE G W Wx (.cst d)) := by
  obtain ⟨v, h1, h2⟩ := hr
  exact pe_imp (pe_glob hg hm h1 hd) fun σ H Q ⟨F, ρ, ok, q⟩ => rd_ret ok q (h2 F)
/-- a name as a value: from now on shared -/
theorem c_slot {e : Expr} {i : Nat} (h : PE X e (tVar i)) : PE X e (rdE G W Wx (.slot i)) := by
  refine pe_imp h fun σ H Q ⟨F, ρ, ok, q⟩ => ?_
  have q' : rdR G Wx (readR ρ i) F H σ ρ Q := q
  unfold readR at q'
  cases e3 : ρ[i]? with
  | none => rw [e3] at q'; exact q'.elim
  | some s =>
    rw [e3] at q'
    cases s with
    | no => exact q'.elim
    | io d => exact q'.elim
    | sh d =>
      obtain ⟨v, h1, h2⟩ := ok.sh i d e3
      exact ⟨v, h1, rd_ret ok q' h2⟩
    | ow d =>
      obtain ⟨a, h1, h2⟩ := ok.ow i d (.inl e3)
      have hi : i < ρ.length := (List.getElem?_eq_some_iff.mp e3).1
      have hne : ∀ (j : Nat) (d' : D), isOw (ρ.set i .no) j d' → j ≠ i ∧ isOw ρ j d' := fun j d' h => by
        by_cases hj : j = i
        · subst hj
          unfold isOw at h
          rw [List.getElem?_set_self hi] at h
          rcases h with h | h <;> cases h
        · unfold isOw at h ⊢
          rw [List.getElem?_set_ne (Ne.symm hj)] at h
          exact ⟨hj, h⟩
      have ownSub : ∀ b, own σ (ρ.set i .no) b → own σ ρ b ∧ b ≠ a := fun b ⟨j, d', h3, h4⟩ => by
        obtain ⟨hj, h5⟩ := hne j d' h3
        refine ⟨⟨j, d', h5, h4⟩, fun z => ?_⟩
        subst z
        exact ok.nd j i d' d b hj h5 (.inl e3) h4 h1
      have ok1 : Ok G F H σ (ρ.set i .no) := by
        refine ⟨by simpa using ok.len, ok.le, fun j d' h3 => ?_, fun j d' h3 => ?_, fun j k d1 d2 b hjk h3 h4 h5 h6 => ?_, ok.dct⟩
        · by_cases hj : j = i
          · subst hj; rw [List.getElem?_set_self hi] at h3; cases h3
          · rw [List.getElem?_set_ne (Ne.symm hj)] at h3; exact ok.sh j d' h3
        · exact ok.ow j d' (hne j d' h3).2
        · exact ok.nd j k d1 d2 b hjk (hne j d1 h3).2 (hne k d2 h4).2 h5 h6
      have g1 : Go G F H σ ρ F H σ (ρ.set i .no) := ⟨ok1, fun _ _ h => h, fun _ _ h _ => h, fun _ _ _ h => h, fun _ h => h, fun _ _ h => .inr h, fun b hb => .inl (ownSub b hb).1, fun j d' h3 => by
        by_cases hj : j = i
        · subst hj; rw [e3] at h3; cases h3
        · exact ⟨⟨d', by rw [List.getElem?_set_ne (Ne.symm hj)]; exact h3⟩, rfl⟩⟩
      have rr : ResRep G H σ ρ F H σ (ρ.set i .no) (.ref a) (.fr d) := ⟨a, rfl, h2, fun z => (ownSub a z).2 rfl, .inr ⟨i, d, .inl e3, h1⟩⟩
      obtain ⟨F2, g2, m2, rep⟩ := freeze ok g1 rr
      refine ⟨.ref a, h1, q' _ F2 H ?_ rep⟩
      have ok2 := g2.ok
      have keyp : ∀ (j : Nat) (d' : D), isOw (ρ.set i (.sh d)) j d' → isOw (ρ.set i .no) j d' := fun j d' h => by
        by_cases hj : j = i
        · subst hj
          unfold isOw at h
          rw [List.getElem?_set_self hi] at h
          rcases h with h | h <;> cases h
        · unfold isOw at h ⊢
          rw [List.getElem?_set_ne (Ne.symm hj)] at h ⊢
          exact h
      refine ⟨⟨by simpa using ok.len, ok2.le, fun j d' h3 => ?_, fun j d' h3 => ok2.ow j d' (keyp j d' h3), fun j k d1 d2 b hjk h3 h4 h5 h6 => ok2.nd j k d1 d2 b hjk (keyp j d1 h3) (keyp k d2 h4) h5 h6, ok.dct⟩, g2.mono, g2.keep, g2.keepF, g2.there, g2.shape, fun b ⟨j, d', h3, h4⟩ => g2.own b ⟨j, d', keyp j d' h3, h4⟩, fun j d' h3 => ?_⟩
      · by_cases hj : j = i
        · subst hj
          rw [List.getElem?_set_self hi] at h3
          cases h3
          exact ⟨_, h1, rep⟩
        · rw [List.getElem?_set_ne (Ne.symm hj)] at h3
          exact ok2.sh j d' (by rw [List.getElem?_set_ne (Ne.symm hj)]; exact h3)
      · by_cases hj : j = i
        · subst hj; rw [e3] at h3; cases h3
        · exact ⟨⟨d', by rw [List.getElem?_set_ne (Ne.symm hj)]; exact h3⟩, rfl⟩
/-- a name's own object handed on: the name holds nothing known any more -/
theorem c_mv {e : Expr} {i : Nat} (h : PE X e (tVar i)) : PE X e (rdE G W Wx (.mv i)) := by
  refine pe_imp h fun σ H Q ⟨F, ρ, ok, q⟩ => ?_
  have q' : rdR G Wx (moveR ρ i) F H σ ρ Q := q
  unfold moveR at q'
  cases e3 : ρ[i]? with
  | none => rw [e3] at q'; exact q'.elim
  | some s =>
    rw [e3] at q'
    cases s with
    | no => exact q'.elim
    | io d => exact q'.elim
    | sh d =>
      obtain ⟨v, h1, h2⟩ := ok.sh i d e3
      exact ⟨v, h1, rd_ret ok q' h2⟩
    | ow d =>
      obtain ⟨a, h1, h2⟩ := ok.ow i d (.inl e3)
      have hi : i < ρ.length := (List.getElem?_eq_some_iff.mp e3).1
      have hne : ∀ (j : Nat) (d' : D), isOw (ρ.set i .no) j d' → j ≠ i ∧ isOw ρ j d' := fun j d' h => by
        by_cases hj : j = i
        · subst hj
          unfold isOw at h
          rw [List.getElem?_set_self hi] at h
          rcases h with h | h <;> cases h
        · unfold isOw at h ⊢
          rw [List.getElem?_set_ne (Ne.symm hj)] at h
          exact ⟨hj, h⟩
      have ownSub : ∀ b, own σ (ρ.set i .no) b → own σ ρ b ∧ b ≠ a := fun b ⟨j, d', h3, h4⟩ => by
        obtain ⟨hj, h5⟩ := hne j d' h3
        refine ⟨⟨j, d', h5, h4⟩, fun z => ?_⟩
        subst z
        exact ok.nd j i d' d b hj h5 (.inl e3) h4 h1
      have ok1 : Ok G F H σ (ρ.set i .no) := by
        refine ⟨by simpa using ok.len, ok.le, fun j d' h3 => ?_, fun j d' h3 => ?_, fun j k d1 d2 b hjk h3 h4 h5 h6 => ?_, ok.dct⟩
        · by_cases hj : j = i
          · subst hj; rw [List.getElem?_set_self hi] at h3; cases h3
          · rw [List.getElem?_set_ne (Ne.symm hj)] at h3; exact ok.sh j d' h3
        · exact ok.ow j d' (hne j d' h3).2
        · exact ok.nd j k d1 d2 b hjk (hne j d1 h3).2 (hne k d2 h4).2 h5 h6
      have g1 : Go G F H σ ρ F H σ (ρ.set i .no) := ⟨ok1, fun _ _ h => h, fun _ _ h _ => h, fun _ _ _ h => h, fun _ h => h, fun _ _ h => .inr h, fun b hb => .inl (ownSub b hb).1, fun j d' h3 => by
        by_cases hj : j = i
        · subst hj; rw [e3] at h3; cases h3
        · exact ⟨⟨d', by rw [List.getElem?_set_ne (Ne.symm hj)]; exact h3⟩, rfl⟩⟩
      exact ⟨.ref a, h1, q' _ F H g1 ⟨a, rfl, h2, fun z => (ownSub a z).2 rfl, .inr ⟨i, d, .inl e3, h1⟩⟩⟩

/-! ### new objects -/
theorem go_new {F H : Hp} {σ : St} {ρ : Rho} {p : Addr} {o : HO} (ok : Ok G F H σ ρ) (hp : H p = none) (ho : ∀ b, o ≠ .own b) : Go G F H σ ρ F (upd H p o) σ ρ := by
  have fp : F p = none := by
    cases e : F p with
    | none => rfl
    | some u => have := ok.le _ _ e; rw [hp] at this; cases this
  have ne : ∀ {a u}, H a = some u → a ≠ p := fun h => ne_of_none h hp
  have keep : ∀ a u, H a = some u → upd H p o a = some u := fun a u h => by rw [upd_ne (ne h)]; exact h
  refine ⟨⟨ok.len, fun a u h => keep a u (ok.le _ _ h), ok.sh, fun i d h => ?_, ok.nd, fun a b h => ?_⟩, fun _ _ h => h, fun a u h _ => keep a u h, fun _ _ _ h => h, fun a h => ?_, fun a b h => ?_, fun _ h => .inl h, fun _ d h => ⟨⟨d, h⟩, rfl⟩⟩
  · obtain ⟨a, h1, h2⟩ := ok.ow i d h
    exact ⟨a, h1, h2.keep (fun _ _ h => h) h2.1 (fun u h => keep _ _ h) fun dx h => ⟨keep _ _ h, fun z => z⟩⟩
  · by_cases ha : a = p
    · subst ha; rw [upd_same] at h; cases h; exact absurd rfl (ho b)
    · rw [upd_ne ha] at h
      have := ok.dct _ _ h
      obtain ⟨u, hu⟩ := Option.ne_none_iff_exists'.mp this
      rw [keep _ _ hu]; simp
  · obtain ⟨u, hu⟩ := Option.ne_none_iff_exists'.mp h
    rw [keep _ _ hu]; simp
  · by_cases ha : a = p
    · subst ha; rw [upd_same] at h; cases h; exact absurd rfl (ho b)
    · rw [upd_ne ha] at h; exact .inr h
theorem fresh_own {F H : Hp} {σ : St} {ρ : Rho} {p : Addr} (ok : Ok G F H σ ρ) (hp : H p = none) : ¬ own σ ρ p := fun ⟨i, d, h1, h2⟩ => by
  obtain ⟨a, h3, h4⟩ := ok.ow i d h1
  rw [h2] at h3; cases h3
  exact h4.there hp
theorem free_F {F H : Hp} {σ : St} {ρ : Rho} {p : Addr} (ok : Ok G F H σ ρ) (hp : H p = none) : F p = none := by
  cases e : F p with
  | none => rfl
  | some u => have := ok.le _ _ e; rw [hp] at this; cases this
/-- a new list of one's own -/
theorem go_list {F H : Hp} {σ : St} {ρ : Rho} {p : Addr} {xs : List D} {vs : List V} (ok : Ok G F H σ ρ) (hp : H p = none) (r : RepL G F xs vs) :
    Go G F H σ ρ F (upd H p (.lst vs)) σ ρ ∧ ResRep G H σ ρ F (upd H p (.lst vs)) σ ρ (.ref p) (.fr (.lst xs)) :=
  ⟨go_new ok hp (fun _ z => nomatch z), p, rfl, ⟨free_F ok hp, vs, upd_same, r⟩, fresh_own ok hp, .inl hp⟩
/-- a new tuple: frozen at once -/
theorem go_tup {F H : Hp} {σ : St} {ρ : Rho} {p : Addr} {xs : List D} {vs : List V} (ok : Ok G F H σ ρ) (hp : H p = none) (r : RepL G F xs vs) :
    ∃ F', Go G F H σ ρ F' (upd H p (.tup vs)) σ ρ ∧ Rep G F' (.tup xs) (.ref p) := by
  have g := go_new (o := .tup vs) ok hp (fun _ z => nomatch z)
  have fp := free_F ok hp
  have m : Same F (upd F p (.tup vs)) := fun b u hb => by rw [upd_ne (ne_of_none hb fp)]; exact hb
  refine ⟨upd F p (.tup vs), ⟨⟨ok.len, fun b u hb => ?_, fun i d h => ?_, fun i d h => ?_, ok.nd, g.ok.dct⟩, m, g.keep, fun b h1 h2 h3 => ?_, g.there, g.shape, g.own, g.io⟩, ?_⟩
  · by_cases hb' : b = p
    · subst hb'; rw [upd_same] at hb ⊢; exact hb
    · rw [upd_ne hb'] at hb; exact g.ok.le _ _ hb
  · obtain ⟨v, h1, h2⟩ := ok.sh i d h
    exact ⟨v, h1, h2.mono m⟩
  · obtain ⟨a, h1, h2⟩ := g.ok.ow i d h
    have na : a ≠ p := fun z => by subst z; exact fresh_own ok hp ⟨i, d, h, h1⟩
    refine ⟨a, h1, h2.keep m (by rw [upd_ne na]; exact h2.1) (fun _ q => q) fun dx q => ⟨q, fun w => ?_⟩⟩
    rw [upd_ne]; exact w
    intro z; subst z; rw [upd_same] at q; cases q
  · rw [upd_ne (fun z => by subst z; exact h1 hp)]; exact h3
  · unfold Rep
    exact ⟨p, vs, rfl, .inl (.inl upd_same), r.mono m⟩
end
end Dp
/-! Operators by values. -/
namespace Dp
open PySem PySem.Spec PyProof.Rows L2

section
variable {X : Cx} {G : Gx} {W : Wd} {Wx : WX} {F H : Hp} {σ : St} {ρ : Rho}

/-! ### what is read off a value -/
theorem rdv_non {x : V} (h : Rdv G F H .non x) : x = .non := by
  rcases h with h | ⟨a, _, h⟩
  · unfold Rep at h; exact h
  · exact h.2.elim
theorem rdv_bl {b : Bool} {x : V} (h : Rdv G F H (.bl b) x) : x = .bl b := by
  rcases h with h | ⟨a, _, h⟩
  · unfold Rep at h; exact h
  · exact h.2.elim
theorem rdv_int {i : Int} {x : V} (h : Rdv G F H (.int i) x) : x = .int i := by
  rcases h with h | ⟨a, _, h⟩
  · unfold Rep at h; exact h
  · exact h.2.elim
theorem rdv_str {s : Str} {x : V} (h : Rdv G F H (.str s) x) : x = .str s := by
  rcases h with h | ⟨a, _, h⟩
  · unfold Rep at h; exact h
  · exact h.2.elim
theorem rdv_tup (le : Same F H) {xs : List D} {x : V} (h : Rdv G F H (.tup xs) x) : ∃ a vs, x = .ref a ∧ SqT G.K H a vs ∧ RepL G F xs vs := by
  rcases h with h | ⟨a, _, h⟩
  · unfold Rep at h
    obtain ⟨a, vs, e, h1, h2⟩ := h
    exact ⟨a, vs, e, sqt_mono le h1, h2⟩
  · exact h.2.elim
theorem rdv_lst (le : Same F H) {xs : List D} {x : V} (h : Rdv G F H (.lst xs) x) : ∃ a vs, x = .ref a ∧ H a = some (.lst vs) ∧ RepL G F xs vs := by
  rcases h with h | ⟨a, e, h⟩
  · unfold Rep at h
    obtain ⟨a, vs, e, h1, h2⟩ := h
    exact ⟨a, vs, e, le _ _ h1, h2⟩
  · obtain ⟨vs, h1, h2⟩ := h.2
    exact ⟨a, vs, e, h1, h2⟩
theorem rdv_scr (le : Same F H) {xs : List Int} {x : V} (h : Rdv G F H (.scr xs) x) : ∃ a, x = .ref a ∧ SqL G.K H a (xs.map V.int) := by
  rcases h with h | ⟨a, e, h⟩
  · unfold Rep at h
    obtain ⟨a, e, h1⟩ := h
    exact ⟨a, e, le.seq h1⟩
  · exact h.2.elim
theorem rep_int {i : Int} : Rep G F (.int i) (.int i) := by unfold Rep; rfl
theorem rep_bl {i : Bool} : Rep G F (.bl i) (.bl i) := by unfold Rep; rfl
theorem rep_str {i : Str} : Rep G F (.str i) (.str i) := by unfold Rep; rfl
theorem rep_non : Rep G F .non .non := by unfold Rep; rfl

theorem rr_sh {H F' H' : Hp} {σ σ' : St} {ρ ρ' : Rho} {d : D} {v : V} (h : Rep G F' d v) : ResRep G H σ ρ F' H' σ' ρ' v (.sh d) := h
theorem rr_int {H F' H' : Hp} {σ σ' : St} {ρ ρ' : Rho} {i : Int} : ResRep G H σ ρ F' H' σ' ρ' (.int i) (.sh (.int i)) := rr_sh rep_int
theorem rr_bl {H F' H' : Hp} {σ σ' : St} {ρ ρ' : Rho} {i : Bool} : ResRep G H σ ρ F' H' σ' ρ' (.bl i) (.sh (.bl i)) := rr_sh rep_bl
theorem rr_str {H F' H' : Hp} {σ σ' : St} {ρ ρ' : Rho} {i : Str} : ResRep G H σ ρ F' H' σ' ρ' (.str i) (.sh (.str i)) := rr_sh rep_str
theorem rr_non {H F' H' : Hp} {σ σ' : St} {ρ ρ' : Rho} : ResRep G H σ ρ F' H' σ' ρ' .non (.sh .non) := rr_sh rep_non

/-! ### plain data -/
mutual
theorem rep_py (le : Same F H) : ∀ {d : D} {p : PyData} {x : V}, Rep G F d x → d.toPy = some p → L2.Dp G.K H x p
  | .non, p, x, h, e => by unfold Rep at h; subst h; cases e; exact .non
  | .bl b, p, x, h, e => by unfold Rep at h; subst h; cases e; exact .bl b
  | .int b, p, x, h, e => by unfold Rep at h; subst h; cases e; exact .int b
  | .str b, p, x, h, e => by unfold Rep at h; subst h; cases e; exact .str b
  | .tup xs, p, x, h, e => by
    unfold Rep at h
    obtain ⟨a, vs, rfl, h1, h2⟩ := h
    unfold D.toPy at e
    cases e1 : D.toPy.toPyL xs with
    | none => rw [e1] at e; cases e
    | some ps => rw [e1] at e; cases e; exact .tup (sqt_mono le h1) (rep_pyL le h2 e1)
  | .lst xs, p, x, h, e => by
    unfold Rep at h
    obtain ⟨a, vs, rfl, h1, h2⟩ := h
    unfold D.toPy at e
    cases e1 : D.toPy.toPyL xs with
    | none => rw [e1] at e; cases e
    | some ps => rw [e1] at e; cases e; exact .lst (.inl (.inl (le _ _ h1))) (rep_pyL le h2 e1)
  | .ins _ _, _, _, _, e => by unfold D.toPy at e; cases e
  | .exc _ _, _, _, _, e => by unfold D.toPy at e; cases e
  | .scr _, _, _, _, e => by unfold D.toPy at e; cases e
theorem rep_pyL (le : Same F H) : ∀ {xs : List D} {ps : List PyData} {vs : List V}, RepL G F xs vs → D.toPy.toPyL xs = some ps → L2.DpAll G.K H vs ps
  | [], ps, vs, h, e => by unfold RepL at h; subst h; unfold D.toPy.toPyL at e; cases e; exact .nil
  | x :: xs, ps, vs, h, e => by
    unfold RepL at h
    obtain ⟨u, us, rfl, h1, h2⟩ := h
    unfold D.toPy.toPyL at e
    cases e1 : x.toPy with
    | none => rw [e1] at e; cases e
    | some p =>
      cases e2 : D.toPy.toPyL xs with
      | none => rw [e1, e2] at e; cases e
      | some qs => rw [e1, e2] at e; cases e; exact .cons (rep_py le h1 e1) (rep_pyL le h2 e2)
end
theorem rdv_py (le : Same F H) {d : D} {p : PyData} {x : V} (h : Rdv G F H d x) (e : d.toPy = some p) : L2.Dp G.K H x p := by
  rcases h with h | ⟨a, rfl, h⟩
  · exact rep_py le h e
  · obtain ⟨_, h⟩ := h
    cases d with
    | lst xs =>
      obtain ⟨vs, h1, h2⟩ := h
      unfold D.toPy at e
      cases e1 : D.toPy.toPyL xs with
      | none => rw [e1] at e; cases e
      | some ps => rw [e1] at e; cases e; exact .lst (.inl (.inl h1)) (rep_pyL le h2 e1)
    | ins c fs => unfold D.toPy at e; cases e
    | _ => exact h.elim

/-! ### operators -/
/-- a two-place operation of the model, by what it gives -/
structure OpD (X : Cx) (G : Gx) (f : Value → Value → Sem Value) (g : D → D → Option Res) : Prop where
  ex : ∃ rel : R2, OpR X f rel ∧ ∀ {F H σ ρ x y d e r Q}, Ok G F H σ ρ → Rdv G F H d x → Rdv G F H e y → g d e = some r → contV G F H σ ρ r Q → rel x y H Q

theorem cont_sh {r : D} {v : V} {Q : VK} (ok : Ok G F H σ ρ) (h : contV G F H σ ρ (.sh r) Q) (rep : Rep G F r v) : Q v H := h v F H (Go.refl ok) rep


theorem opd_of {f : Value → Value → Sem Value} {g : D → D → Option Res} (rel : R2) (h : OpR X f rel)
    (k : ∀ {F H σ ρ x y d e r Q}, Ok G F H σ ρ → Rdv G F H d x → Rdv G F H e y → g d e = some r → contV G F H σ ρ r Q → rel x y H Q) : OpD X G f g := ⟨rel, h, k⟩

theorem od_add (hK : G.K = X.K) : OpD X G (binaryOp .Add) (bop .add) := by
  refine opd_of _ (.or op_add (.or op_add_str (.or op_cat op_catA))) ?_
  intro F H σ ρ x y d e r Q ok hx hy hg q
  replace hg : addD d e = some r := hg
  unfold addD at hg
  split at hg <;> try (cases hg; done)
  · cases hg
    exact .inl ⟨_, _, rdv_int hx, rdv_int hy, cont_sh ok q rep_int⟩
  · split at hg
    · rename_i hl
      cases hg
      exact .inr (.inl ⟨_, _, rdv_str hx, rdv_str hy, of_decide_eq_true hl, cont_sh ok q rep_str⟩)
    · cases hg
  · split at hg
    · rename_i hl
      cases hg
      obtain ⟨a, vs, rfl, h1, h2⟩ := rdv_lst ok.le hx
      obtain ⟨b, ws, rfl, h3, h4⟩ := rdv_lst ok.le hy
      refine .inr (.inr (.inl ⟨a, b, vs, ws, rfl, rfl, h1, h3, by rw [h2.len, h4.len]; exact of_decide_eq_true hl, fun p hp => ?_⟩))
      obtain ⟨g1, g2⟩ := go_list ok hp (h2.append h4)
      exact q _ _ _ g1 g2
    · cases hg
  · split at hg
    · rename_i hl
      cases hg
      obtain ⟨a, vs, rfl, h1, h2⟩ := rdv_tup ok.le hx
      obtain ⟨b, ws, rfl, h3, h4⟩ := rdv_tup ok.le hy
      rw [hK] at h1 h3
      refine .inr (.inr (.inr ⟨a, b, vs, ws, rfl, rfl, h1, h3, by rw [h2.len, h4.len]; exact of_decide_eq_true hl, fun z => ?_, fun z1 z2 => ?_, fun _ _ p hp => ?_⟩))
      · refine cont_sh ok q ?_
        have e1 := h2.len
        rw [z] at e1
        rw [List.eq_nil_of_length_eq_zero e1.symm]
        rcases hy with hy | ⟨_, _, hy⟩
        · exact hy
        · exact hy.2.elim
      · refine cont_sh ok q ?_
        have e1 := h4.len
        rw [z2] at e1
        rw [List.eq_nil_of_length_eq_zero e1.symm, List.append_nil]
        rcases hx with hx | ⟨_, _, hx⟩
        · exact hx
        · exact hx.2.elim
      · obtain ⟨F', g1, g2⟩ := go_tup ok hp (h2.append h4)
        exact q _ _ _ g1 g2
    · cases hg
theorem od_sub : OpD X G (binaryOp .Sub) (bop .sub) := by
  refine opd_of _ op_sub ?_
  intro F H σ ρ x y d e r Q ok hx hy hg q
  replace hg : subD d e = some r := hg
  unfold subD at hg
  split at hg <;> try (cases hg; done)
  cases hg
  exact ⟨_, _, rdv_int hx, rdv_int hy, cont_sh ok q rep_int⟩
theorem od_mul (hK : G.K = X.K) : OpD X G (binaryOp .Mult) (bop .mul) := by
  refine opd_of _ (.or op_mulX (.or op_rep op_repT)) ?_
  intro F H σ ρ x y d e r Q ok hx hy hg q
  replace hg : mulD d e = some r := hg
  unfold mulD at hg
  split at hg <;> try (cases hg; done)
  · split at hg
    · rename_i hl
      cases hg
      exact .inl ⟨_, _, rdv_int hx, rdv_int hy, (by unfold CMulX; exact of_decide_eq_true hl), cont_sh ok q rep_int⟩
    · cases hg
  · split at hg
    · rename_i hl
      cases hg
      simp only [Bool.and_eq_true] at hl
      obtain ⟨⟨h5, h6⟩, h7⟩ := hl
      obtain ⟨a, vs, rfl, h1, h2⟩ := rdv_lst ok.le hx
      refine .inr (.inl ⟨a, _, vs, rfl, rdv_int hy, h1, of_decide_eq_true h5, of_decide_eq_true h6, by rw [h2.len]; exact of_decide_eq_true h7, fun p hp => ?_⟩)
      obtain ⟨g1, g2⟩ := go_list ok hp (h2.rep _)
      exact q _ _ _ g1 g2
    · cases hg
  · split at hg
    · rename_i xs k hl
      cases hg
      simp only [Bool.and_eq_true] at hl
      obtain ⟨⟨⟨h5, h6⟩, h7⟩, h8⟩ := hl
      obtain ⟨a, vs, rfl, h1, h2⟩ := rdv_tup ok.le hx
      rw [hK] at h1
      refine .inr (.inr ⟨a, _, vs, rfl, rdv_int hy, h1, fun z => ?_, of_decide_eq_true h6, of_decide_eq_true h7, by rw [h2.len]; exact of_decide_eq_true h8, fun p hp => ?_⟩)
      · have e1 := h2.len
        rw [z] at e1
        have e2 := List.eq_nil_of_length_eq_zero e1.symm
        rw [e2] at h5
        cases h5
      · obtain ⟨F', g1, g2⟩ := go_tup ok hp (h2.rep _)
        exact q _ _ _ g1 g2
    · cases hg
theorem op_fdivB : OpR X (binaryOp .FloorDiv) (rI (fun _ j => j ≠ 0 ∧ j.natAbs.log2 < 9000) fun i j => .int (i.fdiv j)) := opI fun i j _ _ _ _ _ hc q =>
  floordiv_int hc.1 q (.inl (PyProof.noPylong_of_log2 hc.2))
theorem od_fdiv : OpD X G (binaryOp .FloorDiv) (bop .fdiv) := by
  refine opd_of _ op_fdivB ?_
  intro F H σ ρ x y d e r Q ok hx hy hg q
  replace hg : fdivD d e = some r := hg
  unfold fdivD at hg
  split at hg <;> try (cases hg; done)
  split at hg
  · rename_i hl
    cases hg
    unfold divOkN at hl
    simp only [Bool.and_eq_true] at hl
    exact ⟨_, _, rdv_int hx, rdv_int hy, ⟨of_decide_eq_true hl.1, of_decide_eq_true hl.2⟩, cont_sh ok q rep_int⟩
  · cases hg
theorem od_mod : OpD X G (binaryOp .Mod) (bop .mod) := by
  refine opd_of _ op_modN ?_
  intro F H σ ρ x y d e r Q ok hx hy hg q
  replace hg : modD d e = some r := hg
  unfold modD at hg
  split at hg <;> try (cases hg; done)
  split at hg
  · rename_i hl
    cases hg
    exact ⟨_, _, rdv_int hx, rdv_int hy, hl, cont_sh ok q rep_int⟩
  · cases hg
theorem od_pow : OpD X G (binaryOp .Pow) (bop .pow) := by
  refine opd_of _ op_pow ?_
  intro F H σ ρ x y d e r Q ok hx hy hg q
  replace hg : powD d e = some r := hg
  unfold powD at hg
  split at hg <;> try (cases hg; done)
  split at hg
  · rename_i hl
    cases hg
    exact ⟨_, _, rdv_int hx, rdv_int hy, hl, cont_sh ok q rep_int⟩
  · cases hg

/-! ### comparisons -/
def gB (g : D → D → Option Bool) : D → D → Option Res := fun d e => (g d e).map fun b => .sh (.bl b)
theorem gB_some {g : D → D → Option Bool} {d e : D} {r : Res} (h : gB g d e = some r) : ∃ b, g d e = some b ∧ r = .sh (.bl b) := by
  unfold gB at h
  cases e1 : g d e with
  | none => rw [e1] at h; cases h
  | some b => rw [e1] at h; cases h; exact ⟨b, rfl, rfl⟩
theorem od_int {f : Value → Value → Sem Value} {p : Int → Int → Bool} (h : OpR X f (rI0 fun i j => .bl (p i j))) : OpD X G f (gB (cmpI p)) := by
  refine opd_of _ h ?_
  intro F H σ ρ x y d e r Q ok hx hy hg q
  obtain ⟨b, h1, rfl⟩ := gB_some hg
  unfold cmpI at h1
  split at h1 <;> try (cases h1; done)
  cases h1
  exact ⟨_, _, rdv_int hx, rdv_int hy, cont_sh ok q rep_bl⟩
theorem od_lt : OpD X G (compareOp .Lt) (gB (cop .lt)) := od_int op_lt
theorem od_le : OpD X G (compareOp .LtE) (gB (cop .le)) := od_int op_le
theorem od_gt : OpD X G (compareOp .Gt) (gB (cop .gt)) := od_int op_gt
theorem od_ge : OpD X G (compareOp .GtE) (gB (cop .ge)) := od_int op_ge
theorem eqD_some {d e : D} {b : Bool} (h : eqD d e = some b) : ∃ p q, d.toPy = some p ∧ e.toPy = some q ∧ SeqAt.shaped p = true ∧ SeqAt.shaped q = true ∧ b = PyData.eqv p q := by
  unfold eqD at h
  split at h
  · rename_i p q h1 h2
    split at h
    · rename_i hs
      cases h
      simp only [Bool.and_eq_true] at hs
      exact ⟨p, q, h1, h2, hs.1, hs.2, rfl⟩
    · cases h
  · cases h
theorem od_eq (hK : G.K = X.K) (hu : X.A.units + 64 < cLine) : OpD X G (compareOp .Eq) (gB (cop .eq)) := by
  refine opd_of _ (op_eqD hu) ?_
  intro F H σ ρ x y d e r Q ok hx hy hg q
  obtain ⟨b, h1, rfl⟩ := gB_some hg
  obtain ⟨p, p', e1, e2, s1, s2, rfl⟩ := eqD_some (show eqD d e = some b from h1)
  rw [← hK]
  exact ⟨p, p', rdv_py ok.le hx e1, rdv_py ok.le hy e2, s1, s2, cont_sh ok q rep_bl⟩
theorem od_ne (hK : G.K = X.K) (hu : X.A.units + 64 < cLine) : OpD X G (compareOp .NotEq) (gB (cop .ne)) := by
  refine opd_of _ (op_neD hu) ?_
  intro F H σ ρ x y d e r Q ok hx hy hg q
  obtain ⟨b, h1, rfl⟩ := gB_some hg
  have h2 : (eqD d e).map (!·) = some b := h1
  cases h3 : eqD d e with
  | none => rw [h3] at h2; cases h2
  | some c =>
    rw [h3] at h2; cases h2
    obtain ⟨p, p', e1, e2, s1, s2, rfl⟩ := eqD_some h3
    rw [← hK]
    exact ⟨p, p', rdv_py ok.le hx e1, rdv_py ok.le hy e2, s1, s2, cont_sh ok q rep_bl⟩
theorem inD_some {d e : D} {b : Bool} (h : inD d e = some b) : (∃ p qs, d.toPy = some p ∧ e.toPy = some (.list qs) ∧ SeqAt.shaped p = true ∧ SeqAt.shaped (.list qs) = true ∧ b = qs.any fun z => PyData.eqv z p) ∨
    ∃ ys v vs, e = .tup ys ∧ cstV d = some v ∧ cstVs ys = some vs ∧ b = inV v vs := by
  unfold inD at h
  split at h
  · rename_i ys
    split at h
    · rename_i p qs h1 h2
      split at h
      · rename_i hs
        cases h
        simp only [Bool.and_eq_true] at hs
        exact .inl ⟨p, qs, h1, h2, hs.1, hs.2, rfl⟩
      · cases h
    · cases h
  · rename_i ys
    split at h
    · rename_i v vs h1 h2
      cases h
      exact .inr ⟨ys, v, vs, rfl, h1, h2, rfl⟩
    · cases h
  · cases h
theorem rdv_cst {d : D} {v x : V} (e : cstV d = some v) (h : Rdv G F H d x) : x = v ∧ flatV v = true := by
  cases d <;> first | (cases e; done) | skip
  · cases e; exact ⟨rdv_non h, rfl⟩
  · cases e; exact ⟨rdv_bl h, rfl⟩
  · cases e; exact ⟨rdv_int h, rfl⟩
  · cases e; exact ⟨rdv_str h, rfl⟩
theorem rep_csts : ∀ {ys : List D} {vs us : List V}, cstVs ys = some vs → RepL G F ys us → us = vs ∧ vs.all flatV = true
  | [], vs, us, e, h => by unfold RepL at h; subst h; cases e; exact ⟨rfl, rfl⟩
  | d :: ys, vs, us, e, h => by
    unfold RepL at h
    obtain ⟨u, us', rfl, h1, h2⟩ := h
    unfold cstVs at e
    split at e
    · rename_i v vs' e1 e2
      cases e
      obtain ⟨rfl, f1⟩ := rdv_cst (H := F) e1 (.inl h1)
      obtain ⟨rfl, f2⟩ := rep_csts e2 h2
      exact ⟨rfl, by rw [List.all_cons, f1, f2]; rfl⟩
    · cases e
theorem od_in (hK : G.K = X.K) (hu : X.A.units + 65 < cLine) : OpD X G (compareOp .In) (gB (cop .in_)) := by
  refine opd_of _ (.or (op_inD hu) op_in_seq) ?_
  intro F H σ ρ x y d e r Q ok hx hy hg q
  obtain ⟨b, h1, rfl⟩ := gB_some hg
  rcases inD_some (show inD d e = some b from h1) with ⟨p, p', e1, e2, s1, s2, rfl⟩ | ⟨ys, v, vs, rfl, e1, e2, rfl⟩
  · rw [← hK]
    exact .inl ⟨p, p', rdv_py ok.le hx e1, rdv_py ok.le hy e2, s1, s2, cont_sh ok q rep_bl⟩
  · obtain ⟨a, us, rfl, h3, h4⟩ := rdv_tup ok.le hy
    obtain ⟨rfl, f2⟩ := rep_csts e2 h4
    obtain ⟨rfl, f1⟩ := rdv_cst e1 hx
    rw [hK] at h3
    exact .inr ⟨a, _, rfl, .inr h3, f1, f2, cont_sh ok q rep_bl⟩
theorem od_notIn (hK : G.K = X.K) (hu : X.A.units + 65 < cLine) : OpD X G (compareOp .NotIn) (gB (cop .notIn)) := by
  refine opd_of _ (.or (op_notInD hu) op_notIn_seq) ?_
  intro F H σ ρ x y d e r Q ok hx hy hg q
  obtain ⟨b, h1, rfl⟩ := gB_some hg
  have h2 : (inD d e).map (!·) = some b := h1
  cases h3 : inD d e with
  | none => rw [h3] at h2; cases h2
  | some c =>
    rw [h3] at h2; cases h2
    rcases inD_some h3 with ⟨p, p', e1, e2, s1, s2, rfl⟩ | ⟨ys, v, vs, rfl, e1, e2, rfl⟩
    · rw [← hK]
      exact .inl ⟨p, p', rdv_py ok.le hx e1, rdv_py ok.le hy e2, s1, s2, cont_sh ok q rep_bl⟩
    · obtain ⟨a, us, rfl, h4, h5⟩ := rdv_tup ok.le hy
      obtain ⟨rfl, f2⟩ := rep_csts e2 h5
      obtain ⟨rfl, f1⟩ := rdv_cst e1 hx
      rw [hK] at h4
      exact .inr ⟨a, _, rfl, .inr h4, f1, f2, cont_sh ok q rep_bl⟩
theorem rdv_isnon {d : D} {x : V} (h : Rdv G F H d x) : decide (x = .non) = d.isNon := by
  rcases h with h | ⟨a, rfl, h⟩
  · cases d <;> (unfold Rep at h) <;> first | (subst h; rfl) | (obtain ⟨a, vs, rfl, _⟩ := h; rfl) | (obtain ⟨a, vs, ws, rfl, _⟩ := h; rfl) | (obtain ⟨a, rfl, _⟩ := h; rfl)
  · obtain ⟨_, h⟩ := h
    cases d <;> first | rfl | exact h.elim
theorem isD_some {d e : D} {b : Bool} (h : isD d e = some b) : (e = .non ∧ b = d.isNon) ∨ ∃ p q, d = .bl p ∧ e = .bl q ∧ b = decide (p = q) := by
  unfold isD at h
  split at h <;> try (cases h; done)
  · cases h; exact .inl ⟨rfl, rfl⟩
  · cases h; exact .inr ⟨_, _, rfl, rfl, rfl⟩
theorem od_is : OpD X G (compareOp .Is) (gB (cop .is)) := by
  refine opd_of _ (.or op_isN op_is_bl) ?_
  intro F H σ ρ x y d e r Q ok hx hy hg q
  obtain ⟨b, h1, rfl⟩ := gB_some hg
  rcases isD_some h1 with ⟨rfl, rfl⟩ | ⟨p, p', rfl, rfl, rfl⟩
  · refine .inl ⟨rdv_non hy, ?_⟩
    rw [rdv_isnon hx]
    exact cont_sh ok q rep_bl
  · exact .inr ⟨_, _, rdv_bl hx, rdv_bl hy, cont_sh ok q rep_bl⟩
theorem od_isNot : OpD X G (compareOp .IsNot) (gB (cop .isNot)) := by
  refine opd_of _ (.or op_notN op_isnot_bl) ?_
  intro F H σ ρ x y d e r Q ok hx hy hg q
  obtain ⟨b, h0, rfl⟩ := gB_some hg
  have h2 : (isD d e).map (!·) = some b := h0
  cases h1 : isD d e with
  | none => rw [h1] at h2; cases h2
  | some c =>
    rw [h1] at h2; cases h2
    rcases isD_some h1 with ⟨rfl, rfl⟩ | ⟨p, p', rfl, rfl, rfl⟩
    · refine .inl ⟨rdv_non hy, ?_⟩
      rw [rdv_isnon hx]
      exact cont_sh ok q rep_bl
    · exact .inr ⟨_, _, rdv_bl hx, rdv_bl hy, cont_sh ok q rep_bl⟩
end
end Dp
/-! Expressions and tests, one row a construct. -/
namespace Dp
open PySem PySem.Spec PyProof.Rows L2

section
variable {X : Cx} {G : Gx} {W : Wd} {Wx : WX}

/-- a value's rule: from what the operation gives -/
def Snd (G : Gx) (g : D → D → Option Res) (rel : R2) : Prop :=
  ∀ {F H σ ρ x y d e r Q}, Ok G F H σ ρ → Rdv G F H d x → Rdv G F H e y → g d e = some r → contV G F H σ ρ r Q → rel x y H Q

def two (g : D → D → Option Res) (fa fb : Rho → R (Opd × Rho)) (ρ : Rho) : R (Res × Rho) :=
  (fa ρ).bind fun (x, ρ1) => (fb ρ1).bind fun (y, ρ2) =>
    match x.get ρ2, y.get ρ2 with
    | some d, some e => (R.opt (g d e)).bind fun r => .ok (r, ρ2)
    | _, _ => .bad
theorem tOp_of {g : D → D → Option Res} {rel : R2} (hs : Snd G g rel) {fa fb : Rho → R (Opd × Rho)} {σ : St} {H : Hp} {Q : VK} (q : rdF G Wx (two g fa fb) σ H Q) : tOp rel (rdPF G Wx fa) (rdPF G Wx fb) σ H Q := by
  obtain ⟨F, ρ, ok, q⟩ := q
  refine rdPF_then (k := fun x ρ1 => (fb ρ1).bind fun (y, ρ2) => match x.get ρ2, y.get ρ2 with | some d, some e => (R.opt (g d e)).bind fun r => .ok (r, ρ2) | _, _ => .bad) ok q fun x F1 H1 ρ1 o g1 r1 q1 => ?_
  refine rdPF_then (k := fun y ρ2 => match o.get ρ2, y.get ρ2 with | some d, some e => (R.opt (g d e)).bind fun r => .ok (r, ρ2) | _, _ => .bad) g1.ok q1 fun y F2 H2 ρ2 o2 g2 r2 q2 => ?_
  cases e1 : o.get ρ2 with
  | none => rw [e1] at q2; exact q2.elim
  | some d =>
    cases e2 : o2.get ρ2 with
    | none => rw [e1, e2] at q2; exact q2.elim
    | some e =>
      rw [e1, e2] at q2
      have q3 : rdR G Wx ((R.opt (g d e)).bind fun r => .ok (r, ρ2)) F2 H2 σ ρ2 Q := q2
      cases e3 : g d e with
      | none => rw [e3] at q3; exact q3.elim
      | some r =>
        rw [e3] at q3
        exact hs g2.ok (opd_get g2.mono g2.ok r1 e1) (opd_get (fun _ _ h => h) g2.ok r2 e2) e3 q3
variable {a b c : Expr} {a' b' c' : E} {pos : Pos}
theorem c_bin {op : Operator} {bo : BOp} (h : OpD X G (binaryOp op) (bop bo)) (ha : PE X a (rdP G W Wx a')) (hb : PE X b (rdP G W Wx b')) : PE X (.BinOp a op b pos) (rdE G W Wx (.bin bo a' b')) := by
  obtain ⟨rel, h1, h2⟩ := h
  exact pe_imp (pe_op h1 ha hb) fun σ H Q q => tOp_of (fun a b c d e => h2 a b c d e) (g := bop bo) q
theorem gB_two {g : D → D → Option Bool} {fa fb : Rho → R (Opd × Rho)} {ρ : Rho} : ((fa ρ).bind fun (x, ρ1) => (fb ρ1).bind fun (y, ρ2) =>
      match x.get ρ2, y.get ρ2 with
      | some d, some e => (R.opt (g d e)).bind fun r => (R.ok (Res.sh (.bl r), ρ2) : R (Res × Rho))
      | _, _ => .bad) = two (gB g) fa fb ρ := by
  unfold two
  cases fa ρ with
  | bad => rfl
  | exc c d ρ => rfl
  | ok p =>
    obtain ⟨x, ρ1⟩ := p
    show R.bind (fb ρ1) _ = R.bind (fb ρ1) _
    cases fb ρ1 with
    | bad => rfl
    | exc c d ρ => rfl
    | ok p =>
      obtain ⟨y, ρ2⟩ := p
      show (match x.get ρ2, y.get ρ2 with
        | some d, some e => (R.opt (g d e)).bind fun r => (R.ok (Res.sh (.bl r), ρ2) : R (Res × Rho))
        | _, _ => .bad) = (match x.get ρ2, y.get ρ2 with
        | some d, some e => (R.opt (gB g d e)).bind fun r => (R.ok (r, ρ2) : R (Res × Rho))
        | _, _ => .bad)
      cases x.get ρ2 with
      | none => rfl
      | some d =>
        cases y.get ρ2 with
        | none => rfl
        | some e =>
          show (R.opt (g d e)).bind _ = (R.opt (gB g d e)).bind _
          unfold gB
          cases g d e <;> rfl
theorem c_cmp {op : CmpOp} {co : COp} (h : OpD X G (compareOp op) (gB (cop co))) (ha : PE X a (rdP G W Wx a')) (hb : PE X b (rdP G W Wx b')) (hm : behindInMarks op b = false := by rfl) : PE X (.Compare a [op] [b] pos) (rdE G W Wx (.cmp co a' b')) := by
  obtain ⟨rel, h1, h2⟩ := h
  refine pe_imp (pe_cmpR h1 ha hb hm) fun σ H Q ⟨F, ρ, ok, q⟩ => tOp_of (fun a b c d e => h2 a b c d e) (g := gB (cop co)) ⟨F, ρ, ok, ?_⟩
  rw [← gB_two]; exact q

/-! ### tests -/
def rdTR (G : Gx) (Wx : WX) (x : R (Bool × Rho)) (F H : Hp) (σ : St) (ρ : Rho) (Q : Bool → Hp → Prop) : Prop :=
  match x with
  | .ok (b, ρ') => ∀ F' H', Go G F H σ ρ F' H' σ ρ' → Q b H'
  | .exc c d ρ' => excK G Wx F H σ ρ c d ρ' σ
  | .bad => False
def rdTF (G : Gx) (Wx : WX) (f : Rho → R (Bool × Rho)) : TT := fun σ H Q => ∃ F ρ, Ok G F H σ ρ ∧ rdTR G Wx (f ρ) F H σ ρ Q
abbrev rdT (G : Gx) (W : Wd) (Wx : WX) (e : E) : TT := rdTF G Wx (tst W e)
theorem pt_imp {e : Expr} {t t' : TT} (h : PT X e t) (i : ∀ σ H Q, t' σ H Q → t σ H Q) : PT X e t' := ⟨fun pins s σ H Q I q => h.run pins s σ H Q I (i σ H Q q)⟩
theorem pw_imp {e : Expr} {t t' : TT} (h : PW X e t) (i : ∀ σ H Q, t' σ H Q → t σ H Q) : PW X e t' := ⟨fun wh pins s σ H Q I q => h.run wh pins s σ H Q I (i σ H Q q)⟩
/-- an operand's truth -/
theorem tB_of {f : Rho → R (Opd × Rho)} {σ : St} {H : Hp} {Q : Bool → Hp → Prop} (q : rdTF G Wx (fun ρ => tstR (f ρ)) σ H Q) : rdPF G Wx f σ H (fun x H1 => ∃ c, x = .bl c ∧ Q c H1) := by
  obtain ⟨F, ρ, ok, q⟩ := q
  replace q : rdTR G Wx (tstR (f ρ)) F H σ ρ Q := q
  refine ⟨F, ρ, ok, ?_⟩
  cases r : f ρ with
  | bad => rw [r] at q; exact q
  | exc c d ρ' => rw [r] at q; exact q
  | ok p =>
    obtain ⟨o, ρ1⟩ := p
    rw [r] at q
    intro v F1 H1 g rr
    have q' : rdTR G Wx (match o.get ρ1 with | some (.bl b) => .ok (b, ρ1) | _ => .bad) F H σ ρ Q := q
    cases e1 : o.get ρ1 with
    | none => rw [e1] at q'; exact q'.elim
    | some d =>
      rw [e1] at q'
      have rd := opd_get (fun _ _ h => h) g.ok rr e1
      cases d <;> first | exact q'.elim | skip
      rename_i b
      exact ⟨b, rdv_bl rd, q' F1 H1 g⟩
theorem t_val {e : Expr} {e' : E} (h : PE X e (rdP G W Wx e')) (he : ∀ whole, isTrue e X.env whole = (do let v ← whole; standAt e.pos; holding [v] (truthy v)) := by intro _; rfl) : PT X e (rdT G W Wx e') :=
  pt_imp (pt_val h he) fun σ H Q q => tB_of q
theorem t_cmp {op : CmpOp} {co : COp} (h : OpD X G (compareOp op) (gB (cop co))) (ha : PE X a (rdP G W Wx a')) (hb : PE X b (rdP G W Wx b')) (hm : behindInMarks op b = false := by rfl) : PT X (.Compare a [op] [b] pos) (rdT G W Wx (.cmp co a' b')) := by
  obtain ⟨rel, h1, h2⟩ := h
  refine pt_imp (pt_cmpR h1 ha hb hm) fun σ H Q ⟨F, ρ, ok, q⟩ => ?_
  refine tOp_of (fun a b c d e => h2 a b c d e) (g := gB (cop co)) ⟨F, ρ, ok, ?_⟩
  rw [← gB_two]
  have q1 : rdTR G Wx (tstR (pk (.cmp co a' b') (ev W (.cmp co a' b')) ρ)) F H σ ρ Q := q
  rw [pk_ev rfl] at q1
  show rdR G Wx (ev W (.cmp co a' b') ρ) F H σ ρ _
  cases r : ev W (.cmp co a' b') ρ with
  | bad => rw [r] at q1; exact q1
  | exc c d ρ' => rw [r] at q1; exact q1
  | ok p =>
    obtain ⟨r', ρ1⟩ := p
    rw [r] at q1
    intro v F1 H1 g rr
    cases r' with
    | fr d =>
      have q2 : rdTR G Wx (match some d with | some (.bl b) => .ok (b, ρ1) | _ => .bad) F H σ ρ Q := q1
      cases d <;> first | exact q2.elim | skip
      obtain ⟨a0, _, o, _⟩ := rr
      exact o.2.elim
    | sh d =>
      have q2 : rdTR G Wx (match some d with | some (.bl b) => .ok (b, ρ1) | _ => .bad) F H σ ρ Q := q1
      cases d <;> first | exact q2.elim | skip
      rename_i b
      exact ⟨b, rdv_bl (G := G) (F := F1) (H := H1) (.inl rr), q2 F1 H1 g⟩

/-- what a test asks of and, or, not: the operands' tests -/
def andT (f g : Rho → R (Bool × Rho)) (ρ : Rho) : R (Bool × Rho) := (f ρ).bind fun (b, ρ1) => match b with | true => g ρ1 | false => .ok (false, ρ1)
def orT (f g : Rho → R (Bool × Rho)) (ρ : Rho) : R (Bool × Rho) := (f ρ).bind fun (b, ρ1) => match b with | false => g ρ1 | true => .ok (true, ρ1)
def notT (f : Rho → R (Bool × Rho)) (ρ : Rho) : R (Bool × Rho) := (f ρ).bind fun (b, ρ1) => .ok (!b, ρ1)
theorem rdTF_then {f : Rho → R (Bool × Rho)} {k : Bool → Rho → R (Bool × Rho)} {F H : Hp} {σ : St} {ρ : Rho} {Q Q1 : Bool → Hp → Prop} (ok : Ok G F H σ ρ) (q : rdTR G Wx ((f ρ).bind fun (x, ρ1) => k x ρ1) F H σ ρ Q)
    (h : ∀ b F1 H1 ρ1, Go G F H σ ρ F1 H1 σ ρ1 → rdTR G Wx (k b ρ1) F1 H1 σ ρ1 Q → Q1 b H1) : rdTF G Wx f σ H Q1 := by
  refine ⟨F, ρ, ok, ?_⟩
  cases r : f ρ with
  | bad => rw [r] at q; exact q
  | exc c d ρ' => rw [r] at q; exact q
  | ok p =>
    obtain ⟨b, ρ1⟩ := p
    rw [r] at q
    intro F1 H1 g
    refine h b F1 H1 ρ1 g ?_
    have q' : rdTR G Wx (k b ρ1) F H σ ρ Q := q
    cases r2 : k b ρ1 with
    | bad => rw [r2] at q'; exact q'
    | exc c d ρ' => rw [r2] at q'; exact excK.back ok g q'
    | ok p =>
      obtain ⟨b3, ρ3⟩ := p
      rw [r2] at q'
      intro F' H' g'
      exact q' F' H' (g.trans ok g')
/-- the test of «a and b» is the tests of both -/
theorem tst_bind {e : E} (hs : isSlot e = false) (ρ : Rho) : tst W e ρ = (ev W e ρ).bind fun (r, ρ1) => match r.d with | .bl b => .ok (b, ρ1) | _ => .bad := by
  unfold tst
  rw [pk_ev hs]
  cases ev W e ρ with
  | bad => rfl
  | exc c d ρ' => rfl
  | ok p =>
    obtain ⟨r, ρ1⟩ := p
    show (match some r.d with | some (.bl b) => R.ok (b, ρ1) | _ => .bad) = (match r.d with | .bl b => R.ok (b, ρ1) | _ => .bad)
    cases r.d <;> rfl
theorem tst_and {e g : E} (hg : isSlot g = false) (ρ : Rho) : tst W (.and e g) ρ = andT (tst W e) (tst W g) ρ := by
  rw [tst_bind rfl]
  unfold andT
  show R.bind (R.bind (pk e (ev W e) ρ) _) _ = R.bind (R.bind (pk e (ev W e) ρ) _) _
  cases pk e (ev W e) ρ with
  | bad => rfl
  | exc c d ρ' => rfl
  | ok p =>
    obtain ⟨o, ρ1⟩ := p
    show R.bind (match o.get ρ1 with | some (.bl true) => ev W g ρ1 | some (.bl false) => .ok (.sh (.bl false), ρ1) | _ => .bad) _ = R.bind (match o.get ρ1 with | some (.bl b) => R.ok (b, ρ1) | _ => .bad) _
    cases o.get ρ1 with
    | none => rfl
    | some d =>
      cases d <;> first | rfl | skip
      rename_i b
      cases b with
      | false => rfl
      | true => exact (tst_bind hg ρ1).symm
theorem tst_or {e g : E} (hg : isSlot g = false) (ρ : Rho) : tst W (.or e g) ρ = orT (tst W e) (tst W g) ρ := by
  rw [tst_bind rfl]
  unfold orT
  show R.bind (R.bind (pk e (ev W e) ρ) _) _ = R.bind (R.bind (pk e (ev W e) ρ) _) _
  cases pk e (ev W e) ρ with
  | bad => rfl
  | exc c d ρ' => rfl
  | ok p =>
    obtain ⟨o, ρ1⟩ := p
    show R.bind (match o.get ρ1 with | some (.bl false) => ev W g ρ1 | some (.bl true) => .ok (.sh (.bl true), ρ1) | _ => .bad) _ = R.bind (match o.get ρ1 with | some (.bl b) => R.ok (b, ρ1) | _ => .bad) _
    cases o.get ρ1 with
    | none => rfl
    | some d =>
      cases d <;> first | rfl | skip
      rename_i b
      cases b with
      | true => rfl
      | false => exact (tst_bind hg ρ1).symm
theorem tst_not {e : E} (ρ : Rho) : tst W (.not e) ρ = notT (tst W e) ρ := by
  rw [tst_bind rfl]
  unfold notT
  show R.bind (R.bind (pk e (ev W e) ρ) _) _ = R.bind (R.bind (pk e (ev W e) ρ) _) _
  cases pk e (ev W e) ρ with
  | bad => rfl
  | exc c d ρ' => rfl
  | ok p =>
    obtain ⟨o, ρ1⟩ := p
    show R.bind (match o.get ρ1 with | some (.bl b) => (R.ok (Res.sh (.bl (!b)), ρ1) : R (Res × Rho)) | _ => .bad) _ = R.bind (match o.get ρ1 with | some (.bl b) => R.ok (b, ρ1) | _ => .bad) _
    cases o.get ρ1 with
    | none => rfl
    | some d => cases d <;> rfl
theorem t_and1 {op : BoolOp} (ha : PT X a (rdT G W Wx a')) : PW X (.BoolOp .And [a] pos) (rdT G W Wx a') := pw_and1 ha
theorem t_or1 {op : BoolOp} (ha : PT X a (rdT G W Wx a')) : PW X (.BoolOp .Or [a] pos) (rdT G W Wx a') := pw_or1 ha
variable {rest : List Expr}
theorem t_and (ha : PT X a (rdT G W Wx a')) (hb : PW X (.BoolOp .And (b :: rest) pos) (rdT G W Wx b')) (hs : isSlot b' = false := by rfl) : PW X (.BoolOp .And (a :: b :: rest) pos) (rdT G W Wx (.and a' b')) := by
  refine pw_imp (pw_and ha hb) fun σ H Q ⟨F, ρ, ok, q⟩ => ?_
  rw [tst_and hs] at q
  refine rdTF_then (k := fun b ρ1 => match b with | true => tst W b' ρ1 | false => .ok (false, ρ1)) ok q fun b F1 H1 ρ1 g q1 => ?_
  cases b with
  | true => rw [if_pos rfl]; exact ⟨F1, ρ1, g.ok, q1⟩
  | false => rw [if_neg Bool.false_ne_true]; exact q1 F1 H1 (Go.refl g.ok)
theorem t_or (ha : PT X a (rdT G W Wx a')) (hb : PW X (.BoolOp .Or (b :: rest) pos) (rdT G W Wx b')) (hs : isSlot b' = false := by rfl) : PW X (.BoolOp .Or (a :: b :: rest) pos) (rdT G W Wx (.or a' b')) := by
  refine pw_imp (pw_or ha hb) fun σ H Q ⟨F, ρ, ok, q⟩ => ?_
  rw [tst_or hs] at q
  refine rdTF_then (k := fun b ρ1 => match b with | false => tst W b' ρ1 | true => .ok (true, ρ1)) ok q fun b F1 H1 ρ1 g q1 => ?_
  cases b with
  | false => rw [if_neg Bool.false_ne_true]; exact ⟨F1, ρ1, g.ok, q1⟩
  | true => rw [if_pos rfl]; exact q1 F1 H1 (Go.refl g.ok)
theorem t_not (ha : PT X a (rdT G W Wx a')) : PT X (.UnaryOp .Not a pos) (rdT G W Wx (.not a')) := by
  refine pt_imp (pt_not ha) fun σ H Q ⟨F, ρ, ok, q⟩ => ?_
  rw [tst_not] at q
  exact rdTF_then (k := fun b ρ1 => .ok (!b, ρ1)) ok q fun b F1 H1 ρ1 g q1 => q1 F1 H1 (Go.refl g.ok)
theorem t_bool {op : BoolOp} {es : List Expr} (h : PW X (.BoolOp op es pos) (rdT G W Wx a')) : PT X (.BoolOp op es pos) (rdT G W Wx a') := h.pt

/-! ### values of not, and, or, if-else -/
theorem c_neg (ha : PE X a (rdP G W Wx a')) : PE X (.UnaryOp .USub a pos) (rdE G W Wx (.neg a')) := by
  refine pe_imp (pe_un un_neg ha) fun σ H Q ⟨F, ρ, ok, q⟩ => ?_
  refine rdPF_then (k := fun x ρ1 => match x.get ρ1 with | some (.int i) => .ok (.sh (.int (-i)), ρ1) | _ => .bad) ok q fun x F1 H1 ρ1 o g r q1 => ?_
  cases e : o.get ρ1 with
  | none => rw [e] at q1; exact q1.elim
  | some d =>
    rw [e] at q1
    cases d <;> first | exact q1.elim | skip
    rename_i i
    exact ⟨i, rdv_int (opd_get (fun _ _ h => h) g.ok r e), rd_ret g.ok q1 rr_int⟩
/-- an operand that is a bool, then -/
def brR (f : Rho → R (Opd × Rho)) (A B : Rho → R (Res × Rho)) (ρ : Rho) : R (Res × Rho) :=
  (f ρ).bind fun (x, ρ1) => match x.get ρ1 with
    | some (.bl true) => A ρ1 | some (.bl false) => B ρ1 | _ => .bad
theorem brR_then {f : Rho → R (Opd × Rho)} {A B : Rho → R (Res × Rho)} {σ : St} {H : Hp} {F : Hp} {ρ : Rho} {Q Q1 : VK} (ok : Ok G F H σ ρ) (q : rdR G Wx (brR f A B ρ) F H σ ρ Q)
    (h1 : ∀ F1 H1 ρ1, Ok G F1 H1 σ ρ1 → rdR G Wx (A ρ1) F1 H1 σ ρ1 Q → Q1 (.bl true) H1) (h0 : ∀ F1 H1 ρ1, Ok G F1 H1 σ ρ1 → rdR G Wx (B ρ1) F1 H1 σ ρ1 Q → Q1 (.bl false) H1) : rdPF G Wx f σ H Q1 := by
  refine rdPF_then (k := fun x ρ1 => match x.get ρ1 with | some (.bl true) => A ρ1 | some (.bl false) => B ρ1 | _ => .bad) ok q fun x F1 H1 ρ1 o g r q1 => ?_
  cases e : o.get ρ1 with
  | none => rw [e] at q1; exact q1.elim
  | some d =>
    rw [e] at q1
    cases d <;> first | exact q1.elim | skip
    rename_i b
    rw [rdv_bl (opd_get (fun _ _ h => h) g.ok r e)]
    cases b with
    | true => exact h1 F1 H1 ρ1 g.ok q1
    | false => exact h0 F1 H1 ρ1 g.ok q1
theorem c_not (ha : PE X a (rdP G W Wx a')) : PE X (.UnaryOp .Not a pos) (rdE G W Wx (.not a')) := by
  refine pe_imp (pe_not ha) fun σ H Q ⟨F, ρ, ok, q⟩ => ?_
  refine rdPF_then (k := fun x ρ1 => match x.get ρ1 with | some (.bl b) => .ok (.sh (.bl (!b)), ρ1) | _ => .bad) ok q fun x F1 H1 ρ1 o g r q1 => ?_
  cases e : o.get ρ1 with
  | none => rw [e] at q1; exact q1.elim
  | some d =>
    rw [e] at q1
    cases d <;> first | exact q1.elim | skip
    rename_i i
    exact ⟨i, rdv_bl (opd_get (fun _ _ h => h) g.ok r e), rd_ret g.ok q1 rr_bl⟩
theorem c_one {op : BoolOp} (ha : PE X a (rdE G W Wx a')) : PE X (.BoolOp op [a] pos) (rdE G W Wx a') := pe_one ha
theorem c_and (ha : PE X a (rdP G W Wx a')) (hb : PE X (.BoolOp .And (b :: rest) pos) (rdE G W Wx b')) : PE X (.BoolOp .And (a :: b :: rest) pos) (rdE G W Wx (.and a' b')) := by
  refine pe_imp (pe_and ha hb) fun σ H Q ⟨F, ρ, ok, q⟩ => ?_
  refine brR_then (A := ev W b') (B := fun ρ1 => .ok (.sh (.bl false), ρ1)) ok q (fun F1 H1 ρ1 ok1 q1 => ?_) fun F1 H1 ρ1 ok1 q1 => ?_
  · exact ⟨true, rfl, by rw [if_pos rfl]; exact ⟨F1, ρ1, ok1, q1⟩⟩
  · exact ⟨false, rfl, by rw [if_neg Bool.false_ne_true]; exact rd_ret ok1 q1 rr_bl⟩
theorem c_or (ha : PE X a (rdP G W Wx a')) (hb : PE X (.BoolOp .Or (b :: rest) pos) (rdE G W Wx b')) : PE X (.BoolOp .Or (a :: b :: rest) pos) (rdE G W Wx (.or a' b')) := by
  refine pe_imp (pe_or ha hb) fun σ H Q ⟨F, ρ, ok, q⟩ => ?_
  have q' : rdR G Wx (brR (pk a' (ev W a')) (fun ρ1 => .ok (.sh (.bl true), ρ1)) (ev W b') ρ) F H σ ρ Q := by
    have e : ev W (.or a' b') ρ = brR (pk a' (ev W a')) (fun ρ1 => .ok (.sh (.bl true), ρ1)) (ev W b') ρ := by
      show R.bind _ _ = R.bind _ _
      congr 1
      funext p
      obtain ⟨x, ρ1⟩ := p
      show (match x.get ρ1 with | some (.bl false) => ev W b' ρ1 | some (.bl true) => .ok (.sh (.bl true), ρ1) | _ => .bad) = (match x.get ρ1 with | some (.bl true) => .ok (.sh (.bl true), ρ1) | some (.bl false) => ev W b' ρ1 | _ => .bad)
      cases x.get ρ1 with
      | none => rfl
      | some d => cases d <;> first | rfl | skip
                  rename_i b; cases b <;> rfl
    rw [← e]; exact q
  refine brR_then ok q' (fun F1 H1 ρ1 ok1 q1 => ?_) fun F1 H1 ρ1 ok1 q1 => ?_
  · exact ⟨true, rfl, by rw [if_pos rfl]; exact rd_ret ok1 q1 rr_bl⟩
  · exact ⟨false, rfl, by rw [if_neg Bool.false_ne_true]; exact ⟨F1, ρ1, ok1, q1⟩⟩
def sel {α : Type} (b : Bool) (x y : α) : α := match b with | true => x | false => y
/-- after a test -/
def brT (f : Rho → R (Bool × Rho)) (A B : Rho → R (Res × Rho)) (ρ : Rho) : R (Res × Rho) :=
  (f ρ).bind fun (b, ρ1) => sel b (A ρ1) (B ρ1)
theorem brT_then {f : Rho → R (Bool × Rho)} {A B : Rho → R (Res × Rho)} {σ : St} {H : Hp} {F : Hp} {ρ : Rho} {Q : VK} {Q1 : Bool → Hp → Prop} (ok : Ok G F H σ ρ) (q : rdR G Wx (brT f A B ρ) F H σ ρ Q)
    (h : ∀ b F1 H1 ρ1, Ok G F1 H1 σ ρ1 → rdR G Wx (sel b (A ρ1) (B ρ1)) F1 H1 σ ρ1 Q → Q1 b H1) : rdTF G Wx f σ H Q1 := by
  refine ⟨F, ρ, ok, ?_⟩
  unfold brT at q
  cases r : f ρ with
  | bad => rw [r] at q; exact q
  | exc c d ρ' => rw [r] at q; exact q
  | ok p =>
    obtain ⟨b, ρ1⟩ := p
    rw [r] at q
    intro F1 H1 g
    refine h b F1 H1 ρ1 g.ok ?_
    have q' : rdR G Wx (sel b (A ρ1) (B ρ1)) F H σ ρ Q := q
    cases r2 : (sel b (A ρ1) (B ρ1)) with
    | bad => rw [r2] at q'; exact q'
    | exc c d ρ' => rw [r2] at q'; exact excK.back ok g q'
    | ok p =>
      obtain ⟨r3, ρ3⟩ := p
      rw [r2] at q'
      intro v F' H' g' rr'
      exact q' v F' H' (g.trans ok g') (rr'.back g)
theorem brR_brT {e : E} {A B : Rho → R (Res × Rho)} {ρ : Rho} : brR (pk e (ev W e)) A B ρ = brT (tst W e) A B ρ := by
  unfold brR brT tst tstR
  cases pk e (ev W e) ρ with
  | bad => rfl
  | exc c d ρ' => rfl
  | ok p =>
    obtain ⟨o, ρ1⟩ := p
    show (match o.get ρ1 with | some (.bl true) => A ρ1 | some (.bl false) => B ρ1 | _ => .bad) = R.bind (match o.get ρ1 with | some (.bl b) => R.ok (b, ρ1) | _ => .bad) _
    cases o.get ρ1 with
    | none => rfl
    | some d => cases d <;> first | rfl | skip
                rename_i b; cases b <;> rfl
theorem c_ite (hc : PT X c (rdT G W Wx c')) (ha : PE X a (rdE G W Wx a')) (hb : PE X b (rdE G W Wx b')) : PE X (.IfExp c a b pos) (rdE G W Wx (.ite c' a' b')) := by
  refine pe_imp (pe_ifExp hc ha hb) fun σ H Q ⟨F, ρ, ok, q⟩ => ?_
  have q' : rdR G Wx (brT (tst W c') (ev W a') (ev W b') ρ) F H σ ρ Q := by rw [← brR_brT]; exact q
  refine brT_then ok q' fun b F1 H1 ρ1 ok1 q1 => ?_
  cases b with
  | true => rw [if_pos rfl]; exact ⟨F1, ρ1, ok1, q1⟩
  | false => rw [if_neg Bool.false_ne_true]; exact ⟨F1, ρ1, ok1, q1⟩

/-! ### a op b op c -/
theorem c_chain {op op' : CmpOp} {co co' : COp} (h : OpD X G (compareOp op) (gB (cop co))) (h' : OpD X G (compareOp op') (gB (cop co'))) (ha : PE X a (rdP G W Wx a')) (hb : PE X b (rdP G W Wx b')) (hc : PE X c (rdP G W Wx c'))
    (hm : lastMarks [op, op'] [b, c] = false := by with_unfolding_all rfl) : PE X (.Compare a [op, op'] [b, c] pos) (rdE G W Wx (.chain co co' a' b' c')) := by
  obtain ⟨rel, h1, h2⟩ := h
  obtain ⟨rel', h1', h2'⟩ := h'
  refine pe_imp (pe_chain h1 h1' ha hb hc hm) fun σ H Q ⟨F, ρ, ok, q⟩ => ?_
  refine rdPF_then (k := fun x ρ1 => (pk b' (ev W b') ρ1).bind fun (y, ρ2) => match x.get ρ2, y.get ρ2 with
      | some d, some e => (R.opt (cop co d e)).bind fun r => match r with
        | false => .ok (.sh (.bl false), ρ2)
        | true => (pk c' (ev W c') ρ2).bind fun (z, ρ3) => match y.get ρ3, z.get ρ3 with
          | some e', some g => (R.opt (cop co' e' g)).bind fun r => .ok (.sh (.bl r), ρ3)
          | _, _ => .bad
      | _, _ => .bad) ok q fun x F1 H1 ρ1 o g1 r1 q1 => ?_
  refine rdPF_then (k := fun y ρ2 => match o.get ρ2, y.get ρ2 with
      | some d, some e => (R.opt (cop co d e)).bind fun r => match r with
        | false => .ok (.sh (.bl false), ρ2)
        | true => (pk c' (ev W c') ρ2).bind fun (z, ρ3) => match y.get ρ3, z.get ρ3 with
          | some e', some g => (R.opt (cop co' e' g)).bind fun r => .ok (.sh (.bl r), ρ3)
          | _, _ => .bad
      | _, _ => .bad) g1.ok q1 fun y F2 H2 ρ2 o2 g2 r2 q2 => ?_
  cases e1 : o.get ρ2 with
  | none => rw [e1] at q2; exact q2.elim
  | some d =>
    cases e2 : o2.get ρ2 with
    | none => rw [e1, e2] at q2; exact q2.elim
    | some e =>
      rw [e1, e2] at q2
      replace q2 : rdR G Wx ((R.opt (cop co d e)).bind fun r => match r with
        | false => .ok (.sh (.bl false), ρ2)
        | true => (pk c' (ev W c') ρ2).bind fun (z, ρ3) => match o2.get ρ3, z.get ρ3 with
          | some e', some g => (R.opt (cop co' e' g)).bind fun r => .ok (.sh (.bl r), ρ3)
          | _, _ => .bad) F2 H2 σ ρ2 Q := q2
      cases e3 : cop co d e with
      | none => rw [e3] at q2; exact q2.elim
      | some r =>
        rw [e3] at q2
        refine h2 g2.ok (opd_get g2.mono g2.ok r1 e1) (opd_get (fun _ _ h => h) g2.ok r2 e2) (r := .sh (.bl r)) (by unfold gB; rw [e3]; rfl) fun v F3 H3 g3 rr => ?_
        have rr' : v = .bl r := by have z : Rep G F3 (.bl r) v := rr; unfold Rep at z; exact z
        refine ⟨r, rr', ?_⟩
        cases r with
        | false =>
          rw [if_neg Bool.false_ne_true]
          have q3 : rdR G Wx (.ok (.sh (.bl false), ρ2)) F2 H2 σ ρ2 Q := q2
          exact q3 _ _ _ g3 rr_bl
        | true =>
          rw [if_pos rfl]
          have q3 : rdR G Wx ((pk c' (ev W c') ρ2).bind fun (z, ρ3) => match o2.get ρ3, z.get ρ3 with
            | some e', some g => (R.opt (cop co' e' g)).bind fun r => .ok (.sh (.bl r), ρ3)
            | _, _ => .bad) F2 H2 σ ρ2 Q := q2
          have q4 : rdR G Wx ((pk c' (ev W c') ρ2).bind fun (z, ρ3) => match o2.get ρ3, z.get ρ3 with
            | some e', some g => (R.opt (cop co' e' g)).bind fun r => .ok (.sh (.bl r), ρ3)
            | _, _ => .bad) F3 H3 σ ρ2 Q := by
            generalize ((pk c' (ev W c') ρ2).bind fun (z, ρ3) => match o2.get ρ3, z.get ρ3 with
              | some e', some g => (R.opt (cop co' e' g)).bind fun r => (R.ok (Res.sh (.bl r), ρ3) : R (Res × Rho))
              | _, _ => .bad) = t at q3 ⊢
            cases t with
            | bad => exact q3
            | exc c d ρ' => exact excK.back g2.ok g3 q3
            | ok p =>
              obtain ⟨r3, ρ3⟩ := p
              intro v F' H' g' rr'
              exact q3 v F' H' (g3.trans g2.ok g') (rr'.back g3)
          refine rdPF_then (k := fun z ρ3 => match o2.get ρ3, z.get ρ3 with
            | some e', some g => (R.opt (cop co' e' g)).bind fun r => .ok (.sh (.bl r), ρ3)
            | _, _ => .bad) g3.ok q4 fun z F4 H4 ρ4 o4 g4 r4 q5 => ?_
          cases e5 : o2.get ρ4 with
          | none => rw [e5] at q5; exact q5.elim
          | some d5 =>
            cases e6 : o4.get ρ4 with
            | none => rw [e5, e6] at q5; exact q5.elim
            | some e6' =>
              rw [e5, e6] at q5
              replace q5 : rdR G Wx ((R.opt (cop co' d5 e6')).bind fun r => .ok (.sh (.bl r), ρ4)) F4 H4 σ ρ4 Q := q5
              cases e7 : cop co' d5 e6' with
              | none => rw [e7] at q5; exact q5.elim
              | some r7 =>
                rw [e7] at q5
                exact h2' g4.ok (opd_get (fun a o h => g4.mono a o (g3.mono a o h)) g4.ok r2 e5) (opd_get (fun _ _ h => h) g4.ok r4 e6) (r := .sh (.bl r7)) (by unfold gB; rw [e7]; rfl) q5

/-! ### an item, a slice, a field -/
theorem repL_at {F : Hp} {xs : List D} {vs : List V} {i : Int} {d : D} (h : RepL G F xs vs) (e : L2.atI xs i = some d) : ∃ v, L2.atI vs i = some v ∧ Rep G F d v := by
  unfold L2.atI at e ⊢
  rw [h.len]
  cases e1 : L2.ixN xs.length i with
  | none => rw [e1] at e; cases e
  | some j =>
    rw [e1] at e
    exact h.get (show xs[j]? = some d from e)
theorem snd_ix (hK : G.K = X.K) : Snd G (fun d e => (ixD d e).map .sh) (fun x y H Q => rIxL X.K x y H Q ∨ rIxT X.K x y H Q) := by
  intro F H σ ρ x y d e r Q ok hx hy hg q
  replace hg : (ixD d e).map Res.sh = some r := hg
  cases e1 : ixD d e with
  | none => rw [e1] at hg; cases hg
  | some d' =>
    rw [e1] at hg; cases hg
    unfold ixD at e1
    split at e1 <;> try (cases e1; done)
    · obtain ⟨a, vs, rfl, h1, h2⟩ := rdv_lst ok.le hx
      obtain ⟨v, h3, h4⟩ := repL_at h2 e1
      exact .inl ⟨a, vs, _, v, rfl, rdv_int hy, .of h1, h3, cont_sh ok q h4⟩
    · obtain ⟨a, vs, rfl, h1, h2⟩ := rdv_tup ok.le hx
      obtain ⟨v, h3, h4⟩ := repL_at h2 e1
      rw [hK] at h1
      exact .inr ⟨a, vs, _, v, rfl, rdv_int hy, h1, h3, cont_sh ok q h4⟩
    · rename_i xs i
      obtain ⟨a, rfl, h1⟩ := rdv_scr ok.le hx
      cases e2 : L2.atI xs i with
      | none => rw [e2] at e1; cases e1
      | some z =>
        rw [e2] at e1; cases e1
        rw [hK] at h1
        refine .inl ⟨a, _, _, .int z, rfl, rdv_int hy, h1, ?_, cont_sh ok q rep_int⟩
        unfold L2.atI at e2 ⊢
        rw [List.length_map]
        cases e3 : L2.ixN xs.length i with
        | none => rw [e3] at e2; cases e2
        | some j =>
          rw [e3] at e2
          show (xs.map V.int)[j]? = _
          rw [List.getElem?_map, show xs[j]? = some z from e2]; rfl
theorem opt_two {g : D → D → Option D} {fa fb : Rho → R (Opd × Rho)} {ρ : Rho} : ((fa ρ).bind fun (x, ρ1) => (fb ρ1).bind fun (y, ρ2) =>
      match x.get ρ2, y.get ρ2 with
      | some d, some e => (R.opt (g d e)).bind fun r => (R.ok (Res.sh r, ρ2) : R (Res × Rho))
      | _, _ => .bad) = two (fun d e => (g d e).map .sh) fa fb ρ := by
  unfold two
  cases fa ρ with
  | bad => rfl
  | exc c d ρ => rfl
  | ok p =>
    obtain ⟨x, ρ1⟩ := p
    show R.bind (fb ρ1) _ = R.bind (fb ρ1) _
    cases fb ρ1 with
    | bad => rfl
    | exc c d ρ => rfl
    | ok p =>
      obtain ⟨y, ρ2⟩ := p
      show (match x.get ρ2, y.get ρ2 with
        | some d, some e => (R.opt (g d e)).bind fun r => (R.ok (Res.sh r, ρ2) : R (Res × Rho))
        | _, _ => .bad) = (match x.get ρ2, y.get ρ2 with
        | some d, some e => (R.opt ((g d e).map Res.sh)).bind fun r => (R.ok (r, ρ2) : R (Res × Rho))
        | _, _ => .bad)
      cases x.get ρ2 with
      | none => rfl
      | some d =>
        cases y.get ρ2 with
        | none => rfl
        | some e =>
          show (R.opt (g d e)).bind _ = (R.opt ((g d e).map Res.sh)).bind _
          cases g d e <;> rfl
theorem c_idx (hK : G.K = X.K) (ha : PE X a (rdP G W Wx a')) (hb : PE X b (rdP G W Wx b')) (hs : PlainIx b := by exact fun _ _ => rfl) : PE X (.Subscript a b pos) (rdE G W Wx (.idx a' b')) := by
  refine pe_imp (pe_ix (.or ix_list ix_tup) ha hb hs) fun σ H Q ⟨F, ρ, ok, q⟩ => tOp_of (snd_ix hK) ⟨F, ρ, ok, ?_⟩
  rw [← opt_two]; exact q
end
end Dp
/-! Displays, built-in functions, slices, fields. -/
namespace Dp
open PySem PySem.Spec PyProof.Rows L2

section
variable {X : Cx} {G : Gx} {W : Wd} {Wx : WX}
def rdLF (G : Gx) (Wx : WX) (f : Rho → R (List D × Rho)) : TA := fun σ H Q => ∃ F ρ, Ok G F H σ ρ ∧ match f ρ with
  | .ok (ds, ρ') => ∀ vs F' H', Go G F H σ ρ F' H' σ ρ' → RepL G F' ds vs → Q vs H'
  | .exc c d ρ' => excK G Wx F H σ ρ c d ρ' σ
  | .bad => False
def OpdReps (F : Hp) (G : Gx) (σ : St) : List V → List Opd → Prop
  | [], [] => True
  | v :: vs, o :: os => OpdRep G F σ v o ∧ OpdReps F G σ vs os
  | _, _ => False
def rdPsF (G : Gx) (Wx : WX) (f : Rho → R (List Opd × Rho)) : TA := fun σ H Q => ∃ F ρ, Ok G F H σ ρ ∧ match f ρ with
  | .ok (os, ρ') => ∀ vs F' H', Go G F H σ ρ F' H' σ ρ' → OpdReps F' G σ vs os → Q vs H'
  | .exc c d ρ' => excK G Wx F H σ ρ c d ρ' σ
  | .bad => False
theorem pa_imp {es : List Expr} {t t' : TA} (h : PA X es t) (i : ∀ σ H Q, t' σ H Q → t σ H Q) : PA X es t' := ⟨fun p pins s σ H Q I q => h.run p pins s σ H Q I (i σ H Q q)⟩
variable {e : Expr} {es : List Expr} {e' : E} {es' : List E} {pos : Pos}
theorem l_nil : PA X [] (rdLF G Wx (evL W [])) := pa_imp pa_nil fun σ H Q ⟨F, ρ, ok, q⟩ => q [] F H (Go.refl ok) RepL.nil
theorem l_cons (ha : PE X e (rdE G W Wx e')) (hr : PA X es (rdLF G Wx (evL W es'))) (hs : starEach (e :: es) X.env = (false, eval e X.env) :: starEach es X.env := by rfl) : PA X (e :: es) (rdLF G Wx (evL W (e' :: es'))) := by
  refine pa_imp (pa_cons ha hr hs) fun σ H Q ⟨F, ρ, ok, q⟩ => ?_
  refine ⟨F, ρ, ok, ?_⟩
  have q0 : match (ev W e' ρ).bind fun (x, ρ1) => (evL W es' ρ1).bind fun (xs, ρ2) => R.ok (x.d :: xs, ρ2) with
    | .ok (ds, ρ') => ∀ vs F' H', Go G F H σ ρ F' H' σ ρ' → RepL G F' ds vs → Q vs H'
    | .exc c d ρ' => excK G Wx F H σ ρ c d ρ' σ
    | .bad => False := q
  clear q
  show rdR G Wx (ev W e' ρ) F H σ ρ _
  cases r : ev W e' ρ with
  | bad => rw [r] at q0; exact q0
  | exc c d ρ' => rw [r] at q0; exact q0
  | ok p =>
    obtain ⟨x, ρ1⟩ := p
    rw [r] at q0
    intro v F1 H1 g rr
    obtain ⟨F2, g2, m, rep⟩ := freeze ok g rr
    refine ⟨F2, ρ1, g2.ok, ?_⟩
    cases r2 : evL W es' ρ1 with
    | bad => simp only [R.bind, r2] at q0
    | exc c d ρ' => simp only [R.bind, r2] at q0; exact excK.back ok g2 q0
    | ok p =>
      obtain ⟨xs, ρ2⟩ := p
      simp only [R.bind, r2] at q0
      intro vs F3 H3 g3 rl
      exact q0 _ F3 H3 (g2.trans ok g3) (RepL.cons (rep.mono g3.mono) rl)
theorem p_nil : PA X [] (rdPsF G Wx (evPs W [])) := pa_imp pa_nil fun σ H Q ⟨F, ρ, ok, q⟩ => q [] F H (Go.refl ok) trivial
theorem opdRep_mono {F F' : Hp} {σ : St} {v : V} {o : Opd} (m : Same F F') (h : OpdRep G F σ v o) : OpdRep G F' σ v o := by
  cases o with
  | «at» i => exact h
  | val d => exact Rep.mono m h
theorem p_cons (ha : PE X e (rdP G W Wx e')) (hr : PA X es (rdPsF G Wx (evPs W es'))) (hs : starEach (e :: es) X.env = (false, eval e X.env) :: starEach es X.env := by rfl) : PA X (e :: es) (rdPsF G Wx (evPs W (e' :: es'))) := by
  refine pa_imp (pa_cons ha hr hs) fun σ H Q ⟨F, ρ, ok, q⟩ => ?_
  refine ⟨F, ρ, ok, ?_⟩
  have q0 : match (pk e' (ev W e') ρ).bind fun (x, ρ1) => (evPs W es' ρ1).bind fun (xs, ρ2) => R.ok (x :: xs, ρ2) with
    | .ok (os, ρ') => ∀ vs F' H', Go G F H σ ρ F' H' σ ρ' → OpdReps F' G σ vs os → Q vs H'
    | .exc c d ρ' => excK G Wx F H σ ρ c d ρ' σ
    | .bad => False := q
  clear q
  show rdPR G Wx (pk e' (ev W e') ρ) F H σ ρ _
  cases r : pk e' (ev W e') ρ with
  | bad => rw [r] at q0; exact q0
  | exc c d ρ' => rw [r] at q0; exact q0
  | ok p =>
    obtain ⟨x, ρ1⟩ := p
    rw [r] at q0
    intro v F1 H1 g rr
    refine ⟨F1, ρ1, g.ok, ?_⟩
    cases r2 : evPs W es' ρ1 with
    | bad => simp only [R.bind, r2] at q0
    | exc c d ρ' => simp only [R.bind, r2] at q0; exact excK.back ok g q0
    | ok p =>
      obtain ⟨xs, ρ2⟩ := p
      simp only [R.bind, r2] at q0
      intro vs F3 H3 g3 rl
      exact q0 _ F3 H3 (g.trans ok g3) ⟨opdRep_mono g3.mono rr, rl⟩

/-! ### (a, b), [a, b] -/
theorem okLen_le {n : Nat} (h : okLen n = true) : n ≤ sizeLine := of_decide_eq_true h
theorem c_tup {x1} (h : PA X es (rdLF G Wx (evL W es'))) : PE X (.Tuple es x1 pos) (rdE G W Wx (.tup es')) := by
  refine pe_imp (pe_tup h) fun σ H Q ⟨F, ρ, ok, q⟩ => ⟨F, ρ, ok, ?_⟩
  have q0 : rdR G Wx ((evL W es' ρ).bind fun (ds, ρ') => if okLen ds.length then .ok (.sh (.tup ds), ρ') else .bad) F H σ ρ Q := q
  clear q
  cases r : evL W es' ρ with
  | bad => rw [r] at q0; exact q0
  | exc c d ρ' => rw [r] at q0; exact q0
  | ok p =>
    obtain ⟨ds, ρ1⟩ := p
    rw [r] at q0
    intro vs F1 H1 g rl
    replace q0 : rdR G Wx (if okLen ds.length then .ok (.sh (.tup ds), ρ1) else .bad) F H σ ρ Q := q0
    cases hl : okLen ds.length with
    | false => rw [hl, if_neg Bool.false_ne_true] at q0; exact q0.elim
    | true =>
      rw [hl, if_pos rfl] at q0
      refine ⟨by rw [rl.len]; exact okLen_le hl, fun p hp => ?_⟩
      obtain ⟨F2, g2, rep⟩ := go_tup g.ok hp rl
      exact q0 _ F2 _ (g.trans ok g2) (rr_sh rep)
theorem c_lst (h : PA X es (rdLF G Wx (evL W es'))) : PE X (.List es pos) (rdE G W Wx (.lst es')) := by
  refine pe_imp (pe_lst h) fun σ H Q ⟨F, ρ, ok, q⟩ => ⟨F, ρ, ok, ?_⟩
  have q0 : rdR G Wx ((evL W es' ρ).bind fun (ds, ρ') => if okLen ds.length then .ok (.fr (.lst ds), ρ') else .bad) F H σ ρ Q := q
  clear q
  cases r : evL W es' ρ with
  | bad => rw [r] at q0; exact q0
  | exc c d ρ' => rw [r] at q0; exact q0
  | ok p =>
    obtain ⟨ds, ρ1⟩ := p
    rw [r] at q0
    intro vs F1 H1 g rl
    replace q0 : rdR G Wx (if okLen ds.length then .ok (.fr (.lst ds), ρ1) else .bad) F H σ ρ Q := q0
    cases hl : okLen ds.length with
    | false => rw [hl, if_neg Bool.false_ne_true] at q0; exact q0.elim
    | true =>
      rw [hl, if_pos rfl] at q0
      refine ⟨by rw [rl.len]; exact okLen_le hl, fun p hp => ?_⟩
      obtain ⟨g2, rr⟩ := go_list g.ok hp rl
      exact q0 _ F1 _ (g.trans ok g2) (rr.back g)

/-! ### built-in functions -/
def RdvL (G : Gx) (F H : Hp) : List D → List V → Prop
  | [], [] => True
  | d :: ds, v :: vs => Rdv G F H d v ∧ RdvL G F H ds vs
  | _, _ => False
theorem opds_get {F1 F2 H2 : Hp} {σ : St} {ρ2 : Rho} (m : Same F1 F2) (ok : Ok G F2 H2 σ ρ2) : ∀ {os : List Opd} {vs : List V} {ds : List D}, OpdReps F1 G σ vs os → getAll ρ2 os = some ds → RdvL G F2 H2 ds vs
  | [], [], ds, _, e => by cases e; trivial
  | [], _ :: _, _, r, _ => r.elim
  | _ :: _, [], _, r, _ => r.elim
  | o :: os, v :: vs, ds, r, e => by
    unfold getAll at e
    cases e1 : o.get ρ2 with
    | none => rw [e1] at e; cases e
    | some d =>
      cases e2 : getAll ρ2 os with
      | none => rw [e1, e2] at e; cases e
      | some ds' =>
        rw [e1, e2] at e; cases e
        exact ⟨opd_get m ok r.1 e1, opds_get m ok r.2 e2⟩
/-- a built-in function by what it gives -/
structure BiD (X : Cx) (G : Gx) (f : Value) (b : Bi) : Prop where
  ex : ∃ rel : List V → Hp → VK → Prop, CallR X f rel ∧ ∀ {F H σ ρ xs ds r Q}, Ok G F H σ ρ → RdvL G F H ds xs → bi b ds = some r → contV G F H σ ρ r Q → rel xs H Q
theorem tCB_of {b : Bi} {rel : List V → Hp → VK → Prop} (hs : ∀ {F H σ ρ xs ds r Q}, Ok G F H σ ρ → RdvL G F H ds xs → bi b ds = some r → contV G F H σ ρ r Q → rel xs H Q) {σ : St} {H : Hp} {Q : VK}
    (q : rdE G W Wx (.bi b es') σ H Q) : tCB rel (rdPsF G Wx (evPs W es')) σ H Q := by
  obtain ⟨F, ρ, ok, q⟩ := q
  refine ⟨F, ρ, ok, ?_⟩
  have q0 : rdR G Wx ((evPs W es' ρ).bind fun (os, ρ1) => match getAll ρ1 os with
      | some ds => (R.opt (bi b ds)).bind fun r => .ok (r, ρ1)
      | none => .bad) F H σ ρ Q := q
  clear q
  cases r : evPs W es' ρ with
  | bad => rw [r] at q0; exact q0
  | exc c d ρ' => rw [r] at q0; exact q0
  | ok p =>
    obtain ⟨os, ρ1⟩ := p
    rw [r] at q0
    intro vs F1 H1 g rl
    replace q0 : rdR G Wx (match getAll ρ1 os with
      | some ds => (R.opt (bi b ds)).bind fun r => .ok (r, ρ1)
      | none => .bad) F H σ ρ Q := q0
    cases e : getAll ρ1 os with
    | none => rw [e] at q0; exact q0.elim
    | some ds =>
      rw [e] at q0
      replace q0 : rdR G Wx ((R.opt (bi b ds)).bind fun r => .ok (r, ρ1)) F H σ ρ Q := q0
      cases e2 : bi b ds with
      | none => rw [e2] at q0; exact q0.elim
      | some r2 =>
        rw [e2] at q0
        refine hs g.ok (opds_get (fun _ _ h => h) g.ok rl e) e2 fun v F2 H2 g2 rr => ?_
        exact q0 v F2 H2 (g.trans ok g2) (rr.back g)
variable {x id T : Str} {p : Pos}
theorem c_biB {id : String} {b : Bi} {x : Str} (h : BiD X G (.builtin id) b) (hm : X.mg x = none) (ha : PA X (e :: es) (rdPsF G Wx (evPs W es'))) (hv : bootBuiltins x = some (.builtin id) := by decide +kernel) (hg : Gl X x := by rfl)
    (hn : x ≠ "__name__" := by decide) (hdb : (x == ("__debug__" : Str)) = false := by decide)
    (he : starEach (e :: es) X.env = (false, eval e X.env) :: starEach es X.env := by rfl) (hpl : (backTo pos (starEach es X.env)).any (·.1) = false := by rfl) : PE X (.Call (.Name x p) (e :: es) [] pos) (rdE G W Wx (.bi b es')) := by
  obtain ⟨rel, h1, h2⟩ := h
  exact pe_imp (pe_callB h1 hg hm hv ha hn hdb he hpl) fun σ H Q q => tCB_of (fun a b c d => h2 a b c d) q
theorem c_biT {T : String} {b : Bi} {x : Str} (h : BiD X G (.type T) b) (hm : X.mg x = none) (ha : PA X (e :: es) (rdPsF G Wx (evPs W es'))) (hv : bootBuiltins x = some (.type T) := by decide +kernel) (hg : Gl X x := by rfl)
    (hn : x ≠ "__name__" := by decide) (hdb : (x == ("__debug__" : Str)) = false := by decide)
    (he : starEach (e :: es) X.env = (false, eval e X.env) :: starEach es X.env := by rfl) (hpl : (backTo pos (starEach es X.env)).any (·.1) = false := by rfl) : PE X (.Call (.Name x p) (e :: es) [] pos) (rdE G W Wx (.bi b es')) := by
  obtain ⟨rel, h1, h2⟩ := h
  exact pe_imp (pe_callTy h1 hg hm hv ha hn hdb he hpl) fun σ H Q q => tCB_of (fun a b c d => h2 a b c d) q
end

section
variable {X : Cx} {G : Gx} {F H : Hp} {σ : St} {ρ : Rho}
theorem rdvl1 {d : D} {xs : List V} (h : RdvL G F H [d] xs) : ∃ x, xs = [x] ∧ Rdv G F H d x := by
  cases xs with
  | nil => exact h.elim
  | cons x r =>
    cases r with
    | nil => exact ⟨x, rfl, h.1⟩
    | cons y z => exact h.2.elim
theorem rdvl2 {d e : D} {xs : List V} (h : RdvL G F H [d, e] xs) : ∃ x y, xs = [x, y] ∧ Rdv G F H d x ∧ Rdv G F H e y := by
  cases xs with
  | nil => exact h.elim
  | cons x r =>
    obtain ⟨y, rfl, h2⟩ := rdvl1 h.2
    exact ⟨x, y, rfl, h.1, h2⟩
theorem bid_of {f : Value} {b : Bi} (rel : List V → Hp → VK → Prop) (h : CallR X f rel) (k : ∀ {F H σ ρ xs ds r Q}, Ok G F H σ ρ → RdvL G F H ds xs → bi b ds = some r → contV G F H σ ρ r Q → rel xs H Q) : BiD X G f b := ⟨rel, h, k⟩
theorem repL_ints : ∀ {xs : List D} {is : List Int} {vs : List V}, RepL G F xs vs → intsD xs = some is → vs = is.map V.int
  | [], is, vs, h, e => by unfold RepL at h; subst h; cases e; rfl
  | d :: xs, is, vs, h, e => by
    unfold RepL at h
    obtain ⟨u, us, rfl, h1, h2⟩ := h
    cases d <;> first | (cases e; done) | skip
    rename_i i
    have e' : (intsD xs).map (i :: ·) = some is := e
    cases e1 : intsD xs with
    | none => rw [e1] at e'; cases e'
    | some js =>
      rw [e1] at e'; cases e'
      unfold Rep at h1; subst h1
      rw [repL_ints h2 e1]; rfl
theorem repL_bools : ∀ {xs : List D} {is : List Bool} {vs : List V}, RepL G F xs vs → boolsD xs = some is → vs = is.map V.bl
  | [], is, vs, h, e => by unfold RepL at h; subst h; cases e; rfl
  | d :: xs, is, vs, h, e => by
    unfold RepL at h
    obtain ⟨u, us, rfl, h1, h2⟩ := h
    cases d <;> first | (cases e; done) | skip
    rename_i i
    have e' : (boolsD xs).map (i :: ·) = some is := e
    cases e1 : boolsD xs with
    | none => rw [e1] at e'; cases e'
    | some js =>
      rw [e1] at e'; cases e'
      unfold Rep at h1; subst h1
      rw [repL_bools h2 e1]; rfl
theorem bd_len (hK : G.K = X.K) : BiD X G (.builtin "len") .len := by
  refine bid_of _ (.or call_len_seq call_len_str) ?_
  intro F H σ ρ xs ds r Q ok hx hg q
  replace hg : lenB ds = some r := hg
  unfold lenB at hg
  split at hg <;> try (cases hg; done)
  · cases hg
    obtain ⟨x, rfl, h0⟩ := rdvl1 hx
    obtain ⟨a, vs, rfl, h1, h2⟩ := rdv_lst ok.le h0
    exact .inl ⟨a, vs, rfl, .inl (.of h1), by rw [h2.len]; exact cont_sh ok q rep_int⟩
  · cases hg
    obtain ⟨x, rfl, h0⟩ := rdvl1 hx
    obtain ⟨a, vs, rfl, h1, h2⟩ := rdv_tup ok.le h0
    rw [hK] at h1
    exact .inl ⟨a, vs, rfl, .inr h1, by rw [h2.len]; exact cont_sh ok q rep_int⟩
  · cases hg
    obtain ⟨x, rfl, h0⟩ := rdvl1 hx
    obtain ⟨a, rfl, h1⟩ := rdv_scr ok.le h0
    rw [hK] at h1
    exact .inl ⟨a, _, rfl, .inl h1, by rw [List.length_map]; exact cont_sh ok q rep_int⟩
  · split at hg
    · rename_i hl
      cases hg
      obtain ⟨x, rfl, h0⟩ := rdvl1 hx
      rw [rdv_str h0]
      exact .inr ⟨_, rfl, of_decide_eq_true hl, cont_sh ok q rep_int⟩
    · cases hg
theorem bd_abs : BiD X G (.builtin "abs") .abs := by
  refine bid_of _ call_abs ?_
  intro F H σ ρ xs ds r Q ok hx hg q
  replace hg : absB ds = some r := hg
  unfold absB at hg
  split at hg <;> try (cases hg; done)
  cases hg
  obtain ⟨x, rfl, h0⟩ := rdvl1 hx
  rw [rdv_int h0]
  exact ⟨_, rfl, cont_sh ok q rep_int⟩
theorem bd_max (hc : X.calm = true) : BiD X G (.builtin "max") .max2 := by
  refine bid_of _ (call_max2 hc) ?_
  intro F H σ ρ xs ds r Q ok hx hg q
  replace hg : maxB ds = some r := hg
  unfold maxB at hg
  split at hg <;> try (cases hg; done)
  cases hg
  obtain ⟨x, y, rfl, h0, h1⟩ := rdvl2 hx
  rw [rdv_int h0, rdv_int h1]
  exact ⟨_, _, rfl, cont_sh ok q rep_int⟩
theorem bd_min (hc : X.calm = true) : BiD X G (.builtin "min") .min2 := by
  refine bid_of _ (call_min2 hc) ?_
  intro F H σ ρ xs ds r Q ok hx hg q
  replace hg : minB ds = some r := hg
  unfold minB at hg
  split at hg <;> try (cases hg; done)
  cases hg
  obtain ⟨x, y, rfl, h0, h1⟩ := rdvl2 hx
  rw [rdv_int h0, rdv_int h1]
  exact ⟨_, _, rfl, cont_sh ok q rep_int⟩
theorem bd_all (hc : X.calm = true) : BiD X G (.builtin "all") .all_ := by
  refine bid_of _ (cr_all hc) ?_
  intro F H σ ρ xs ds r Q ok hx hg q
  replace hg : allB ds = some r := hg
  unfold allB at hg
  split at hg <;> try (cases hg; done)
  rename_i ys
  cases e : boolsD ys with
  | none => rw [e] at hg; cases hg
  | some l =>
    rw [e] at hg; cases hg
    obtain ⟨x, rfl, h0⟩ := rdvl1 hx
    obtain ⟨a, vs, rfl, h1, h2⟩ := rdv_lst ok.le h0
    have ev := repL_bools h2 e
    subst ev
    exact ⟨a, l, rfl, .of h1, cont_sh ok q rep_bl⟩
theorem bd_any (hc : X.calm = true) : BiD X G (.builtin "any") .any_ := by
  refine bid_of _ (cr_any hc) ?_
  intro F H σ ρ xs ds r Q ok hx hg q
  replace hg : anyB ds = some r := hg
  unfold anyB at hg
  split at hg <;> try (cases hg; done)
  rename_i ys
  cases e : boolsD ys with
  | none => rw [e] at hg; cases hg
  | some l =>
    rw [e] at hg; cases hg
    obtain ⟨x, rfl, h0⟩ := rdvl1 hx
    obtain ⟨a, vs, rfl, h1, h2⟩ := rdv_lst ok.le h0
    have ev := repL_bools h2 e
    subst ev
    exact ⟨a, l, rfl, .of h1, cont_sh ok q rep_bl⟩
theorem bd_sum (hc : X.calm = true) : BiD X G (.builtin "sum") .sum_ := by
  refine bid_of _ (cr_sum hc) ?_
  intro F H σ ρ xs ds r Q ok hx hg q
  replace hg : sumB ds = some r := hg
  unfold sumB at hg
  split at hg <;> try (cases hg; done)
  rename_i ys
  cases e : intsD ys with
  | none => rw [e] at hg; cases hg
  | some l =>
    rw [e] at hg; cases hg
    obtain ⟨x, rfl, h0⟩ := rdvl1 hx
    obtain ⟨a, vs, rfl, h1, h2⟩ := rdv_lst ok.le h0
    have ev := repL_ints h2 e
    subst ev
    exact ⟨a, l, rfl, .of h1, cont_sh ok q rep_int⟩
theorem rdv_tup_rep {xs : List D} {x : V} (h : Rdv G F H (.tup xs) x) : Rep G F (.tup xs) x := by
  rcases h with h | ⟨_, _, h⟩
  · exact h
  · exact h.2.elim
theorem bd_tuple (hK : G.K = X.K) : BiD X G (.type "tuple") .tuple := by
  refine bid_of _ call_tuple_of ?_
  intro F H σ ρ xs ds r Q ok hx hg q
  replace hg : tupleB ds = some r := hg
  unfold tupleB at hg
  split at hg <;> try (cases hg; done)
  · cases hg
    obtain ⟨x, rfl, h0⟩ := rdvl1 hx
    obtain ⟨a, vs, rfl, h1, h2⟩ := rdv_lst ok.le h0
    refine ⟨a, vs, rfl, .inl ⟨.of h1, fun p hp => ?_⟩⟩
    obtain ⟨F', g, rep⟩ := go_tup ok hp h2
    exact q _ _ _ g (rr_sh rep)
  · cases hg
    obtain ⟨x, rfl, h0⟩ := rdvl1 hx
    have rp := rdv_tup_rep h0
    obtain ⟨a, vs, rfl, h1, h2⟩ := rdv_tup ok.le h0
    rw [hK] at h1
    exact ⟨a, vs, rfl, .inr ⟨h1, cont_sh ok q rp⟩⟩
theorem repL_map_int : ∀ is : List Int, RepL G F (is.map D.int) (is.map V.int)
  | [] => RepL.nil
  | i :: is => RepL.cons rep_int (repL_map_int is)
theorem bd_list (hK : G.K = X.K) : BiD X G (.type "list") .list := by
  refine bid_of _ call_list_of ?_
  intro F H σ ρ xs ds r Q ok hx hg q
  replace hg : listB ds = some r := hg
  unfold listB at hg
  split at hg <;> try (cases hg; done)
  · cases hg
    obtain ⟨x, rfl, h0⟩ := rdvl1 hx
    obtain ⟨a, vs, rfl, h1, h2⟩ := rdv_lst ok.le h0
    refine ⟨a, vs, rfl, .inl (.of h1), fun p hp => ?_⟩
    obtain ⟨g1, g2⟩ := go_list ok hp h2
    exact q _ _ _ g1 g2
  · cases hg
    obtain ⟨x, rfl, h0⟩ := rdvl1 hx
    obtain ⟨a, vs, rfl, h1, h2⟩ := rdv_tup ok.le h0
    rw [hK] at h1
    refine ⟨a, vs, rfl, .inr h1, fun p hp => ?_⟩
    obtain ⟨g1, g2⟩ := go_list ok hp h2
    exact q _ _ _ g1 g2
  · cases hg
    obtain ⟨x, rfl, h0⟩ := rdvl1 hx
    obtain ⟨a, rfl, h1⟩ := rdv_scr ok.le h0
    rw [hK] at h1
    refine ⟨a, _, rfl, .inl h1, fun p hp => ?_⟩
    obtain ⟨g1, g2⟩ := go_list ok hp (repL_map_int (G := G) (F := F) _)
    exact q _ _ _ g1 g2
theorem bd_int : BiD X G (.type "int") .int := by
  refine bid_of _ call_int1 ?_
  intro F H σ ρ xs ds r Q ok hx hg q
  replace hg : intB ds = some r := hg
  unfold intB at hg
  split at hg <;> try (cases hg; done)
  · cases hg
    obtain ⟨x, rfl, h0⟩ := rdvl1 hx
    rw [rdv_int h0]
    exact .inl ⟨_, rfl, cont_sh ok q rep_int⟩
  · cases hg
    obtain ⟨x, rfl, h0⟩ := rdvl1 hx
    rw [rdv_bl h0]
    exact .inr ⟨_, rfl, cont_sh ok q rep_int⟩

/-! ### repr -/
mutual
theorem toPy_noDict : ∀ {d : D} {p : PyData}, d.toPy = some p → p.hasDict = false
  | .non, _, e | .bl _, _, e | .int _, _, e | .str _, _, e => by cases e; rfl
  | .tup xs, _, e => by
    unfold D.toPy at e
    cases e1 : D.toPy.toPyL xs with
    | none => rw [e1] at e; cases e
    | some ps => rw [e1] at e; cases e; unfold PyData.hasDict; exact toPyL_noDict e1
  | .lst xs, _, e => by
    unfold D.toPy at e
    cases e1 : D.toPy.toPyL xs with
    | none => rw [e1] at e; cases e
    | some ps => rw [e1] at e; cases e; unfold PyData.hasDict; exact toPyL_noDict e1
  | .ins _ _, _, e => by unfold D.toPy at e; cases e
  | .exc _ _, _, e => by unfold D.toPy at e; cases e
  | .scr _, _, e => by unfold D.toPy at e; cases e
theorem toPyL_noDict : ∀ {xs : List D} {ps : List PyData}, D.toPy.toPyL xs = some ps → PyData.hasDictAll ps = false
  | [], _, e => by unfold D.toPy.toPyL at e; cases e; rfl
  | x :: xs, _, e => by
    unfold D.toPy.toPyL at e
    cases e1 : x.toPy with
    | none => rw [e1] at e; cases e
    | some p =>
      cases e2 : D.toPy.toPyL xs with
      | none => rw [e1, e2] at e; cases e
      | some qs =>
        rw [e1, e2] at e; cases e
        unfold PyData.hasDictAll
        rw [toPy_noDict e1, toPyL_noDict e2]; rfl
end
def rReprD (K : PySem.W.Frag) : List V → Hp → VK → Prop := fun xs H Q => ∃ (x : V) (p : PyData), xs = [x] ∧ L2.Dp K H x p ∧ p.showable = true ∧ p.hasDict = false ∧ p.depth ≤ 64 ∧ p.shown.length ≤ sizeLine ∧ Q (.str p.shown) H
theorem call_reprD (hg : X.A.guards = some []) (hu : X.A.units + 100 < cLine) : CallR X (.builtin "repr") (rReprD X.K) := by
  intro pins s τ h xs us Q I r q
  obtain ⟨x, p, rfl, dp, sh, nd, dep, len, q⟩ := q
  cases r with
  | cons rx rn =>
    rename_i u us'
    cases rn
    obtain ⟨as, rd⟩ := L2.Dp.reads I p x u dp rx
    have fin : ∀ h' t, (∀ b o, s.heap.get? b = some o → h'.get? b = some o) → EP X pins τ Q (.str p.shown t) { s with heap := h', toks := t + 1 } := fun h' t k => ⟨.str p.shown, h, I.kept (t' := t + 1) k, ⟨_, rfl⟩, q⟩
    have fin2 : ∀ h' u tk, (∀ b o, s.heap.get? b = some o → h'.get? b = some o) → EP X pins τ Q (.str p.shown u) { s with heap := h', toks := tk } := fun h' u tk k => ⟨.str p.shown, h, I.kept (t' := tk) k, ⟨_, rfl⟩, q⟩
    cases dp with
    | non => cases rx; exact PySem.P.repr_of_none (fin2 _ _ _ fun _ _ h => h)
    | bl b => cases rx; exact PySem.P.repr_of_bool (fin2 _ _ _ fun _ _ h => h)
    | int i =>
      obtain ⟨t, rfl⟩ := rx
      exact PySem.P.repr_of_int (of_decide_eq_true sh) (fin2 _ _ _ fun _ _ h => h)
    | str z =>
      obtain ⟨t, rfl⟩ := rx
      exact PySem.P.repr_of_str (fin2 _ _ _ fun _ _ h => h) len
    | lst h1 h2 =>
      cases rx
      exact PySem.repr_of_reads' rd sh (fun z => absurd (z.symm.trans nd) (by simp)) hg (by omega) (fun _ _ h => h) (fun h' u tk k => fin2 h' u tk k) len
    | tup h1 h2 =>
      cases rx
      exact PySem.repr_of_reads' rd sh (fun z => absurd (z.symm.trans nd) (by simp)) hg (by omega) (fun _ _ h => h) (fun h' u tk k => fin2 h' u tk k) len
theorem bd_repr (hK : G.K = X.K) (hg : X.A.guards = some []) (hu : X.A.units + 100 < cLine) : BiD X G (.builtin "repr") .repr := by
  refine bid_of _ (call_reprD hg hu) ?_
  intro F H σ ρ xs ds r Q ok hx hg q
  replace hg : reprB ds = some r := hg
  unfold reprB at hg
  split at hg <;> try (cases hg; done)
  rename_i d
  cases e : shown d with
  | none => rw [e] at hg; cases hg
  | some z =>
    rw [e] at hg; cases hg
    obtain ⟨x, rfl, h0⟩ := rdvl1 hx
    unfold shown at e
    split at e
    · rename_i p hp
      split at e
      · rename_i hc
        cases e
        simp only [Bool.and_eq_true] at hc
        rw [← hK]
        exact ⟨x, p, rfl, rdv_py ok.le h0 hp, hc.1.1, toPy_noDict hp, SeqAt.depth_of_shaped hc.1.2, of_decide_eq_true hc.2, cont_sh ok q rep_str⟩
      · cases e
    · cases e
end
end Dp
/-! Slices, attributes, isinstance. -/
namespace Dp
open PySem PySem.Spec PyProof.Rows L2

section
variable {X : Cx} {G : Gx} {W : Wd} {Wx : WX} {a b c e : Expr} {a' b' c' e' : E} {pos p2 : Pos}
/-- a slice's part -/
def rdOF (G : Gx) (Wx : WX) (f : Rho → R (Option Int × Rho)) : TO := fun σ H Q => ∃ F ρ, Ok G F H σ ρ ∧ match f ρ with
  | .ok (o, ρ') => ∀ F' H', Go G F H σ ρ F' H' σ ρ' → Q o H'
  | .exc c d ρ' => excK G Wx F H σ ρ c d ρ' σ
  | .bad => False
theorem po_imp {e : Option Expr} {t t' : TO} (h : PO X e t) (i : ∀ σ H Q, t' σ H Q → t σ H Q) : PO X e t' := ⟨fun p s σ H Q I q => h.run p s σ H Q I (i σ H Q q)⟩
theorem o_none : PO X none (rdOF G Wx (evO W none)) := po_imp po_none fun σ H Q ⟨F, ρ, ok, q⟩ => q F H (Go.refl ok)
theorem o_some (h : PE X e (rdE G W Wx e')) : PO X (some e) (rdOF G Wx (evO W (some e'))) := by
  refine po_imp (po_some h) fun σ H Q ⟨F, ρ, ok, q⟩ => ⟨F, ρ, ok, ?_⟩
  have q0 : match (ev W e' ρ).bind fun (r, ρ') => match r with | .sh (.int i) => R.ok (some i, ρ') | _ => .bad with
    | .ok (o, ρ') => ∀ F' H', Go G F H σ ρ F' H' σ ρ' → Q o H'
    | .exc c d ρ' => excK G Wx F H σ ρ c d ρ' σ
    | .bad => False := q
  clear q
  cases r : ev W e' ρ with
  | bad => rw [r] at q0; exact q0
  | exc c d ρ' => rw [r] at q0; exact q0
  | ok p =>
    obtain ⟨x, ρ1⟩ := p
    rw [r] at q0
    intro v F1 H1 g rr
    cases x with
    | fr d => exact q0.elim
    | sh d =>
      cases d <;> first | exact q0.elim | skip
      rename_i i
      exact ⟨i, by unfold ResRep Rep at rr; exact rr, q0 F1 H1 g⟩
/-- after a part -/
theorem rdOF_then {f : Rho → R (Option Int × Rho)} {k : Option Int → Rho → R (Res × Rho)} {F H : Hp} {σ : St} {ρ : Rho} {Q : VK} {Q1 : Option Int → Hp → Prop} (ok : Ok G F H σ ρ) (q : rdR G Wx ((f ρ).bind fun (x, ρ1) => k x ρ1) F H σ ρ Q)
    (h : ∀ x F1 H1 ρ1, Go G F H σ ρ F1 H1 σ ρ1 → rdR G Wx (k x ρ1) F1 H1 σ ρ1 Q → Q1 x H1) : rdOF G Wx f σ H Q1 := by
  refine ⟨F, ρ, ok, ?_⟩
  cases r : f ρ with
  | bad => rw [r] at q; exact q
  | exc c d ρ' => rw [r] at q; exact q
  | ok p =>
    obtain ⟨o, ρ1⟩ := p
    rw [r] at q
    intro F1 H1 g
    refine h o F1 H1 ρ1 g ?_
    have q' : rdR G Wx (k o ρ1) F H σ ρ Q := q
    cases r2 : k o ρ1 with
    | bad => rw [r2] at q'; exact q'
    | exc c d ρ' => rw [r2] at q'; exact excK.back ok g q'
    | ok p =>
      obtain ⟨r3, ρ3⟩ := p
      rw [r2] at q'
      intro v F' H' g' rr'
      exact q' v F' H' (g.trans ok g') (rr'.back g)
theorem repL_cut {F : Hp} {xs : List D} {vs : List V} (h : RepL G F xs vs) (lo hi : Option Int) : RepL G F ((xs.drop (HT.sIx xs.length 0 lo)).take (HT.sIx xs.length xs.length hi - HT.sIx xs.length 0 lo)) (cutV vs lo hi) := by
  unfold cutV
  rw [h.len]
  exact (h.drop _).take _
/-- the whole of it -/
theorem cut_whole {α : Type} {xs : List α} {lo hi : Option Int} (h : HT.sIx xs.length 0 lo = 0 ∧ HT.sIx xs.length xs.length hi = xs.length) : (xs.drop (HT.sIx xs.length 0 lo)).take (HT.sIx xs.length xs.length hi - HT.sIx xs.length 0 lo) = xs := by
  rw [h.1, h.2]; simp
theorem c_slc {lo hi : Option Expr} {lo' hi' : Option E} (hK : G.K = X.K) (ha : PE X a (rdP G W Wx a')) (hl : PO X lo (rdOF G Wx (evO W lo'))) (hu : PO X hi (rdOF G Wx (evO W hi'))) : PE X (.Subscript a (.Slice lo hi none p2) pos) (rdE G W Wx (.slc a' lo' hi')) := by
  refine pe_imp (pe_slice (.or sl_list sl_tupA) ha hl hu) fun σ H Q ⟨F, ρ, ok, q⟩ => ?_
  refine rdPF_then (k := fun x ρ1 => (evO W lo' ρ1).bind fun (l, ρ2) => (evO W hi' ρ2).bind fun (h, ρ3) => match x.get ρ3 with | some d => (R.opt (cutD d l h)).bind fun r => .ok (r, ρ3) | _ => .bad) ok q fun x F1 H1 ρ1 o g1 r1 q1 => ?_
  refine rdOF_then (k := fun l ρ2 => (evO W hi' ρ2).bind fun (h, ρ3) => match o.get ρ3 with | some d => (R.opt (cutD d l h)).bind fun r => .ok (r, ρ3) | _ => .bad) g1.ok q1 fun l F2 H2 ρ2 g2 q2 => ?_
  refine rdOF_then (k := fun h ρ3 => match o.get ρ3 with | some d => (R.opt (cutD d l h)).bind fun r => .ok (r, ρ3) | _ => .bad) g2.ok q2 fun h F3 H3 ρ3 g3 q3 => ?_
  cases e1 : o.get ρ3 with
  | none => rw [e1] at q3; exact q3.elim
  | some d =>
    rw [e1] at q3
    have q4 : rdR G Wx ((R.opt (cutD d l h)).bind fun r => .ok (r, ρ3)) F3 H3 σ ρ3 Q := q3
    have rd := opd_get (fun a o h => g3.mono a o (g2.mono a o h)) g3.ok r1 e1
    cases e2 : cutD d l h with
    | none => rw [e2] at q4; exact q4.elim
    | some r =>
      rw [e2] at q4
      have q5 : contV G F3 H3 σ ρ3 r Q := q4
      unfold cutD at e2
      split at e2
      · cases e2
        obtain ⟨p, vs, rfl, h1, h2⟩ := rdv_lst g3.ok.le rd
        refine .inl ⟨p, vs, rfl, .of h1, fun p0 hp => ?_⟩
        obtain ⟨gg, rr⟩ := go_list g3.ok hp (repL_cut h2 l h)
        exact q5 _ _ _ gg rr
      · cases e2
        obtain ⟨p, vs, rfl, h1, h2⟩ := rdv_tup g3.ok.le rd
        have h1' := h1
        rw [hK] at h1'
        refine .inr ⟨p, vs, rfl, h1', fun hw => ?_, fun hw p0 hp => ?_⟩
        · rw [h2.len] at hw
          refine cont_sh g3.ok q5 ?_
          rw [cut_whole hw]
          unfold Rep
          rcases rd with rd | ⟨_, _, o⟩
          · unfold Rep at rd; exact rd
          · exact o.2.elim
        · obtain ⟨F4, gg, rr⟩ := go_tup g3.ok hp (repL_cut h2 l h)
          exact q5 _ _ _ gg rr
      · cases e2

/-! ### attributes -/
/-- what of the classes the world's tables say -/
structure Fk (K : PySem.W.Frag) (G : Gx) (fok : Nat → Nat → Bool) (eok : Nat → Bool) : Prop where
  ins : ∀ c f, fok c f = true → L2.Cls K (G.cls c) ∧ NoAttr K (G.cls c) (G.fld f) ∧ f < G.nf
  exc : ∀ c, eok c = true → XfC K (G.cls c) ∧ NoAttr K (G.cls c) "value"
/-- an attribute of an instance, or of an exception -/
def tAt (K : PySem.W.Frag) (ta : TE) (f : Str) : TE := fun σ H Q => ta σ H fun x H1 =>
  (∃ a C dx fs v, x = .ref a ∧ H1 a = some (.ins C dx fs) ∧ L2.Cls K C ∧ NoAttr K C f ∧ fs.lookup f = some v ∧ Q v H1) ∨
  ∃ a C dd fs v, x = .ref a ∧ H1 a = some (exH C a dd) ∧ XfC K C ∧ NoAttr K C f ∧ H1 dd = some (.xd fs) ∧ fs.lookup f = some v ∧ Q v H1
theorem exH_at {P : Program} {w : World} {H : Hp} {h : Heap} {C a dd : Addr} (hok : HOk P w H h) (e : H a = some (exH C a dd)) : ∃ o vs, h.get? a = some o ∧ o.cls = .ref C ∧ o.dict = some dd ∧ o.data = .fields vs :=
  (show ObjOk P w H h a (exH C a dd) from hok a _ e).1
theorem pe_at {f : Str} {ta : TE} (he : PE X e ta) (hb : attributeBase e f X.env (eval e X.env) = eval e X.env) : PE X (.Attribute e f pos) (tAt X.K ta f) := by
  refine ⟨fun pins s σ H Q I h => ?_⟩
  refine attr_of hb (thn (he.run pins s σ H _ I h) fun u s1 ⟨x, H1, I1, rx, hh⟩ => ?_)
  rcases hh with ⟨a, C, dx, fs, v, rfl, ea, c, n, l, q⟩ | ⟨a, C, dd, fs, v, rfl, ea, T, n, ed, l, q⟩
  · obtain rfl : u = Value.ref a := rx
    exact getattr_ok I1 ea c n l fun u' s2 I2 ru => ⟨v, H1, I2, ru, q⟩
  · obtain rfl : u = Value.ref a := rx
    obtain ⟨o, vs, h1, h2, h3, h4⟩ := exH_at I1.hok ea
    obtain ⟨mA, hns, hr⟩ := (show ObjOk X.prog X.w H1 s1.heap dd (.xd fs) from I1.hok dd _ ed)
    obtain ⟨od, ho, hl⟩ := lookIn_ns hns
    obtain ⟨u, hu, ru⟩ := RelO.some_of (v := v) (o := mA f) (by rw [← l]; exact hr f)
    have J : PySem.W.InstAt s1.heap a o C (some od) := ⟨h1, h2, by unfold PySem.W.notCls; rw [h4] <;> rfl, by rw [h3]; exact ho⟩
    exact HandSPX.exc_get I1.kIn J T.ga T.gg T.exC (PySem.W.findObj_own T.hdC n rfl (by rw [hl, hu])) (handed_of ru) ⟨v, H1, I1.tok _, ru, q⟩
theorem c_fld {f : Nat} {fs : Str} (k : Fk X.K G W.fok W.eok) (hf : G.fld f = fs) (ha : PE X a (rdP G W Wx a')) (hb : attributeBase a fs X.env (eval a X.env) = eval a X.env := by rfl) : PE X (.Attribute a fs pos) (rdE G W Wx (.fld a' f)) := by
  subst hf
  refine pe_imp (pe_at ha hb) fun σ H Q ⟨F, ρ, ok, q⟩ => ?_
  refine rdPF_then (k := fun x ρ1 => match x.get ρ1 with | some d => (R.opt (fldD W.fok W.eok f d)).bind fun r => .ok (.sh r, ρ1) | _ => .bad) ok q fun x F1 H1 ρ1 o g1 r1 q1 => ?_
  cases e1 : o.get ρ1 with
  | none => rw [e1] at q1; exact q1.elim
  | some d =>
    rw [e1] at q1
    have q2 : rdR G Wx ((R.opt (fldD W.fok W.eok f d)).bind fun r => .ok (.sh r, ρ1)) F1 H1 σ ρ1 Q := q1
    have rd := opd_get (fun _ _ h => h) g1.ok r1 e1
    cases e2 : fldD W.fok W.eok f d with
    | none => rw [e2] at q2; exact q2.elim
    | some r =>
      rw [e2] at q2
      unfold fldD at e2
      split at e2
      · rename_i c fs
        split at e2
        · rename_i hk
          obtain ⟨k1, k2, k3⟩ := k.ins c f hk
          have : ∃ a dx gs, x = .ref a ∧ H1 a = some (.ins (G.cls c) dx gs) ∧ RepF G F1 fs gs := by
            rcases rd with rd | ⟨a, rfl, o⟩
            · unfold Rep at rd
              obtain ⟨a, dx, gs, rfl, h1, h2, h3⟩ := rd
              exact ⟨a, dx, gs, rfl, g1.ok.le _ _ h1, h3⟩
            · obtain ⟨dx, gs, h1, h2, h3, h4⟩ := o.2
              exact ⟨a, dx, gs, rfl, h1, h4⟩
          obtain ⟨a, dx, gs, rfl, h1, h2⟩ := this
          obtain ⟨u, h3, h4⟩ := h2.lookup k3 e2
          exact .inl ⟨a, _, dx, gs, u, rfl, h1, k1, k2, h3, cont_sh g1.ok q2 h4⟩
        · cases e2
      · rename_i c v
        split at e2
        · rename_i h0
          subst h0
          split at e2
          · rename_i hk
            cases e2
            obtain ⟨k1, k2⟩ := k.exc c hk
            rcases rd with rd | ⟨a, rfl, o⟩
            · unfold Rep at rd
              obtain ⟨a, dd, u, rfl, h1, h2, h3⟩ := rd
              rw [G.vn]
              exact .inr ⟨a, _, dd, _, u, rfl, g1.ok.le _ _ h1, k1, k2, g1.ok.le _ _ h2, by rw [List.lookup_cons_self], cont_sh g1.ok q2 h3⟩
            · exact o.2.elim
          · cases e2
        · cases e2
      · cases e2

/-! ### isinstance -/
section
open PySem.W PySem.Calls
variable {prog : Program} {w : World} {A : Around} {B : Value → Shared → Prop} {s : Shared} {K : Frag} {x D : Addr} {ox : Obj} {od : Option Obj}
/-- a descriptor that sets is asked ahead of the object's own dict -/
theorem found_data {C : Addr} {nm : Str} {u g : Value} (hc : (clsIn K C).isSome = true) (hu : findIn K (.ref C) nm = some (some u)) (hg : specialIn K u "__get__" = some (some g)) (ht : takesIn K u = some true) : findObj K C od nm = some (.bind g u) := by
  cases h0 : clsIn K C with
  | none => rw [h0] at hc; cases hc
  | some cd => unfold findObj; rw [h0, Option.bind_some, hu, Option.bind_some]; simp [hg, ht]
theorem class_of_exc {Q : Option Value → Shared → Prop} (T : ExcC K D) (X : K.In s.heap) (I : InstAt s.heap x ox D od) (h : Q (some (.ref D)) { s with toks := s.toks + 1 }) : wpAny (model prog w) A (getAttr? (.ref x) "__class__") Q B s := by
  have fo : findObj K D od "__class__" = some (.bind (.builtin "getset_descriptor.__get__") (.builtin "object.__class__")) := found_data (by obtain ⟨cd, q, _⟩ := any_some T.hd; simp [q]) T.ha T.hn T.ht
  have K1 := looks_findIn (M := model prog w) X T.hg
  have K2 := looks_findIn (M := model prog w) X T.hk
  have K3 := looks_find (M := model prog w) X I fo
  have K0 := I.type (M := model prog w)
  have below : Looks (model prog w) s.heap (isInstance (.ref x) (.type "BaseException")) true := K0.andThen (looks_subIn X T.hs)
  have n2 : (Value.builtin "BaseException.__getattribute__" == Value.builtin "object.__getattribute__") = false := by decide +kernel
  obtain ⟨hp, g, dr, t, os⟩ := s
  unfold getAttr? getAttrBy? getAttrBy
  refine wpAny_bind (wpAny_mkText (wpAny_bind (wpAny_attempt (wpAny_holding (wpAny_bind (K0.at (wpAny_bind (K1.at ?_))))))))
  refine (show wpAny _ _ (if (onTheHeap (Value.ref D) && Value.builtin "BaseException.__getattribute__" == Value.builtin "object.__getattribute__") = true then _ else _) _ _ _ from ?_)
  rw [n2, Bool.and_false, if_neg Bool.false_ne_true]
  unfold getAttrByItsOwn hookBefore; refine wpAny_bind ?_
  rw [if_pos (show onTheHeap (Value.ref D) = true by rfl)]; refine K2.at (wpAny_bind (wpAny_attempt (wpAny_holding ?_)))
  unfold callGetattribute
  rw [show (false && onTheHeap (Value.builtin "BaseException.__getattribute__")) = false from rfl, if_neg Bool.false_ne_true]
  unfold boundAndCalled
  rw [PySem.F.excAttr_ValueError.ga.bind (.ref x)]; refine wpAny_bind (wpAny_pure ?_)
  refine (show wpAny _ _ (call (.builtin "BaseException.__getattribute__") [.ref x, .str "__class__" t]) _ _ _ from wpAny_call (codeAny_call_builtin PySem.F.excAttr_ValueError.ga.plain PySem.F.entry_bexc_ga ?_))
  refine @check_slot (model prog w) _ _ ⟨hp, g, dr, t + 1, os⟩ "BaseException.__getattribute__" "BaseException" "__getattribute__" (.ref x) [.str "__class__" t] [] _ (by decide +kernel) (by decide +kernel) below (PySem.F.args_bexc_ga (.ref x) (.str "__class__" t)) ?_
  unfold Builtin.«object.__getattribute__»; refine wpAny_bind (wpAny_of_eq (a := ((Value.ref x : Value), [Value.str "__class__" t])) (by first | rfl | (simp only [slotArgs]; rfl)) (wpAny_bind (wpAny_pure (wpAny_bind (K0.at (wpAny_bind (K3.at ?_)))))))
  refine (show wpAny _ _ (holding [Value.builtin "object.__class__"] (call (.builtin "getset_descriptor.__get__") [.builtin "object.__class__", .ref x, .ref D]) >>= ret) _ _ _ from ?_)
  refine wpAny_bind (wpAny_holding (wpAny_call (class_get (s := ⟨hp, g, dr, t + 1, os⟩) (ox := ox) (od := od) X I T.hm (wpAny_pure ?_))))
  refine (show wpAny _ _ (handedOut (.ref D)) _ _ _ from ?_)
  rw [handedOut_of (v := .ref D) rfl]; first | exact wpAny_pure (wpAny_pure h) | exact wpAny_pure h | exact wpAny_pure (wpAny_bind (wpAny_pure (wpAny_pure h)))
theorem kitx_exc (T : ExcC K D) : KitX K (.ref x) (.ref D) (fun h => ∃ ox od, InstAt h x ox D od) where
  ty := fun _ _ _ ⟨_, _, I⟩ => I.type
  it := fun _ _ X _ => by
    obtain ⟨cd, hc, _⟩ := any_some T.hd
    unfold clsIn at hc
    split at hc
    · rename_i ho
      intro A' Q' E' s' k q
      unfold isType loadHead; exact wpAny_bind (wpAny_loadPart (k _ _ (X _ _ ho)) (wpAny_pure q))
    · cases hc
  ne := fun h tp dd its n sl X htp => by
    cases q : (Value.ref D == Value.ref tp) with
    | false => rfl
    | true =>
      have e : D = tp := Value.ref.inj (beq_iff_eq.mp q)
      obtain ⟨cd, hc, _⟩ := any_some T.hd
      subst e; unfold clsIn at hc
      split at hc
      · rename_i ho
        have z := (X _ _ ho).symm.trans htp; cases z
      · cases hc
  ca := fun X ⟨_, _, I⟩ k => class_of_exc T X I k
end
/-- .. of an exception -/
def rIsX (K : PySem.W.Frag) : List V → Hp → VK → Prop := fun xs H Q => ∃ (a C dd : Addr) (fs : List (Str × V)) (c : V) (u : Value) (b : Bool), xs = [.ref a, c] ∧ ClsV c u ∧ H a = some (exH C a dd) ∧ H dd = some (.xd fs) ∧ ExcC K C ∧ PySem.W.kitOne K (.ref C) u = some b ∧ Q (.bl b) H
theorem call_isX : CallR X (.builtin "isinstance") (rIsX X.K) := by
  intro pins s σ H xs us Q I r h
  obtain ⟨a, C, dd, fs, c, u, b, rfl, k, ea, ed, T, e, q⟩ := h
  obtain ⟨u1, u2, rfl, r1, r2⟩ := vals2 r
  cases (show u1 = Value.ref a from r1)
  have e2 := k.eq r2
  subst e2
  obtain ⟨o, vs, h1, h2, h3, h4⟩ := exH_at I.hok ea
  obtain ⟨mA, hns, hr⟩ := (show ObjOk X.prog X.w H s.heap dd (.xd fs) from I.hok dd _ ed)
  obtain ⟨od, ho, hl⟩ := lookIn_ns hns
  have J : PySem.W.InstAt s.heap a o C (some od) := ⟨h1, h2, by unfold PySem.W.notCls; rw [h4] <;> rfl, by rw [h3]; exact ho⟩
  exact PySem.W.kia_one (kitx_exc T) I.kIn ⟨o, _, J⟩ e (fun z => nomatch z) fun tk => ⟨.bl b, H, I.kept (t' := tk) fun _ _ z => z, rfl, q⟩
/-- the class that the second argument names -/
structure TyD (X : Cx) (G : Gx) (W : Wd) (e : Expr) (t : Ty) : Prop where
  ex : ∃ v u, PE X e (tC v) ∧ ClsV v u ∧ match t with
    | .int => u = .type "int" | .bool => u = .type "bool" | .str => u = .type "str" | .tuple => u = .type "tuple" | .list => u = .type "list"
    | .cls k => u = .ref (G.cls k) ∧ ∀ c b, W.sub c k = some b → ExcC X.K (G.cls c) ∧ PySem.W.kitOne X.K (.ref (G.cls c)) (.ref (G.cls k)) = some b
theorem ty_b {x : Str} {T : String} {t : Ty} {p : Pos} (hm : X.mg x = none) (hv : bootBuiltins x = some (.type T)) (ht : (match t with
    | .int => T = "int" | .bool => T = "bool" | .str => T = "str" | .tuple => T = "tuple" | .list => T = "list" | .cls _ => False)) (hg : Gl X x := by rfl)
    (hn : x ≠ "__name__" := by decide) (hd : (x == ("__debug__" : Str)) = false := by decide) : TyD X G W (.Name x p) t :=
  ⟨.ty T, .type T, pe_bltn hg hm hv rfl hn hd, .ty T, by cases t <;> first | exact ht.elim | (subst ht; rfl)⟩
theorem ty_c {x : Str} {k : Nat} {p : Pos} (hm : X.mg x = some (.ref (G.cls k))) (hs : ∀ c b, W.sub c k = some b → ExcC X.K (G.cls c) ∧ PySem.W.kitOne X.K (.ref (G.cls c)) (.ref (G.cls k)) = some b) (hg : Gl X x := by rfl) (hd : (x == ("__debug__" : Str)) = false := by decide) : TyD X G W (.Name x p) (.cls k) :=
  ⟨.ref (G.cls k), .ref (G.cls k), pe_glob hg hm rfl hd, .own _, rfl, hs⟩
/-- the type of a plain value -/
def tyOf : D → Option String
  | .non => some "NoneType" | .bl _ => some "bool" | .int _ => some "int" | .str _ => some "str" | .tup _ => some "tuple" | .lst _ => some "list" | _ => none
theorem rdv_ty (hK : G.K = X.K) {F H : Hp} {d : D} {x : V} {T : String} (le : Same F H) (h : Rdv G F H d x) (e : tyOf d = some T) : TyX X.K H x (.type T) := by
  cases d <;> first | (cases e; done) | skip
  · cases e; rw [rdv_non h]; exact .base .non
  · cases e; rw [rdv_bl h]; exact .base (.bl _)
  · cases e; rw [rdv_int h]; exact .base (.int _)
  · cases e; rw [rdv_str h]; exact .base (.str _)
  · cases e
    obtain ⟨a, vs, rfl, h1, h2⟩ := rdv_tup le h
    rcases h1 with (h1 | ⟨o, h1⟩) | h1
    · exact .base (.tup h1)
    · exact .fTuple h1
    · obtain ⟨o, its, n, lk, oc, _⟩ := h1
      rw [hK] at lk
      exact .kTuple lk oc
  · cases e
    obtain ⟨a, vs, rfl, h1, h2⟩ := rdv_lst le h
    exact .base (.lst h1)
def tyS : Ty → Option String
  | .int => some "int" | .bool => some "bool" | .str => some "str" | .tuple => some "tuple" | .list => some "list" | .cls _ => none
theorem kit_plain {sub : Nat → Nat → Option Bool} {d : D} {t : Ty} {b : Bool} {T U : String} (h : tyIs sub d t = some b) (hT : tyOf d = some T) (hU : tyS t = some U) : kitB T U = some b := by
  cases d <;> first | (cases hT; done) | (cases t <;> first | (cases hU; done) | (cases h; cases hT; cases hU; decide +kernel))
theorem c_isi {t : Ty} {p : Pos} (hK : G.K = X.K) (hT : TyD X G W e t) (hm : X.mg "isinstance" = none) (ha : PE X a (rdP G W Wx a')) (hg : Gl X "isinstance" := by rfl)
    (h1 : starEach [a, e] X.env = (false, eval a X.env) :: starEach [e] X.env := by rfl) (h2 : starEach [e] X.env = (false, eval e X.env) :: starEach [] X.env := by rfl) (hpl : (backTo pos (starEach [e] X.env)).any (·.1) = false := by rfl) :
    PE X (.Call (.Name "isinstance" p) [a, e] [] pos) (rdE G W Wx (.isi a' t)) := by
  obtain ⟨cv, u, hc, hv, hu⟩ := hT
  refine pe_imp (pe_callB (.or call_isi call_isX) hg hm (by decide +kernel) (pa_cons ha (pa_cons hc pa_nil h2) h1) (by decide) (by decide) h1 hpl) fun σ H Q ⟨F, ρ, ok, q⟩ => ?_
  refine rdPF_then (k := fun x ρ1 => match x.get ρ1 with | some d => (R.opt (tyIs W.sub d t)).bind fun r => .ok (.sh (.bl r), ρ1) | none => .bad) ok q fun x F1 H1 ρ1 o g1 r1 q1 => ?_
  cases e1 : o.get ρ1 with
  | none => rw [e1] at q1; exact q1.elim
  | some d =>
    rw [e1] at q1
    have q2 : rdR G Wx ((R.opt (tyIs W.sub d t)).bind fun r => .ok (.sh (.bl r), ρ1)) F1 H1 σ ρ1 Q := q1
    have rd := opd_get (fun _ _ h => h) g1.ok r1 e1
    cases e2 : tyIs W.sub d t with
    | none => rw [e2] at q2; exact q2.elim
    | some b =>
      rw [e2] at q2
      have q3 : contV G F1 H1 σ ρ1 (.sh (.bl b)) Q := q2
      have plain : ∀ T, tyOf d = some T → rIsi X.K [x, cv] H1 Q ∨ rIsX X.K [x, cv] H1 Q := fun T hT => by
        cases hU : tyS t with
        | none =>
          cases t <;> first | (cases hU; done) | skip
          cases d <;> first | (cases hT; done) | (cases e2; done)
        | some U =>
          have eu : u = .type U := by cases t <;> first | (cases hU; done) | (cases hU; exact hu)
          refine .inl ⟨x, cv, .type T, u, b, rfl, hv, rdv_ty hK g1.ok.le rd hT, ?_, cont_sh g1.ok q3 rep_bl⟩
          rw [eu]
          exact kit_ty (kit_plain e2 hT hU)
      cases d with
      | exc c v =>
        cases t <;> first | (cases e2; done) | skip
        rename_i k
        obtain ⟨rfl, hs⟩ := hu
        obtain ⟨T, k2⟩ := hs c b e2
        rcases rd with rd | ⟨_, _, o⟩
        · unfold Rep at rd
          obtain ⟨p, dd, w, rfl, h3, h4, _⟩ := rd
          exact .inr ⟨p, _, dd, _, cv, _, b, rfl, hv, g1.ok.le _ _ h3, g1.ok.le _ _ h4, T, k2, cont_sh g1.ok q3 rep_bl⟩
        · exact o.2.elim
      | ins c fs => cases e2
      | scr xs => cases e2
      | non => exact plain _ rfl
      | bl i => exact plain _ rfl
      | int i => exact plain _ rfl
      | str i => exact plain _ rfl
      | tup i => exact plain _ rfl
      | lst i => exact plain _ rfl
end
end Dp
/-! Statements: what the walk asks, from what the plain language computes. -/
namespace Dp
open PySem PySem.Spec PyProof.Rows L2

section
variable (G : Gx) (Wx : WX)
def rdXR (x : XR) (F H : Hp) (σ : St) (ρ : Rho) (D : Ends) : Prop :=
  match x with
  | .nx ρ' => ∀ F' H' σ', Go G F H σ ρ F' H' σ' ρ' → D.nx σ' H'
  | .rt r ρ' => ∀ v F' H' σ', Go G F H σ ρ F' H' σ' ρ' → ResRep G H σ ρ F' H' σ' ρ' v r → D.rt v H'
  | .bk ρ' => ∀ F' H' σ', Go G F H σ ρ F' H' σ' ρ' → D.bk σ' H'
  | .ct ρ' => ∀ F' H' σ', Go G F H σ ρ F' H' σ' ρ' → D.ct σ' H'
  | .exc c d ρ' => ∀ σ', excK G Wx F H σ ρ c d ρ' σ'
  | .bad => False
def rdSF (f : Rho → XR) : TS := fun D σ H => ∃ F ρ, Ok G F H σ ρ ∧ rdXR G Wx (f ρ) F H σ ρ D
end
abbrev rdS (G : Gx) (W : Wd) (Wx : WX) (s : S) : TS := rdSF G Wx (ex W s)
abbrev rdSs (G : Gx) (W : Wd) (Wx : WX) (s : List S) : TS := rdSF G Wx (exs W s)

section
variable {X : Cx} {G : Gx} {W : Wd} {Wx : WX}
theorem ps_imp {st : Stmt} {t t' : TS} (h : PS X st t) (i : ∀ D σ H, t' D σ H → t D σ H) : PS X st t' := ⟨fun p s σ H D I q => h.run p s σ H D I (i D σ H q)⟩
theorem pss_imp {st : List Stmt} {t t' : TS} (h : PSs X st t) (i : ∀ D σ H, t' D σ H → t D σ H) : PSs X st t' := ⟨fun p s σ H D I q => h.run p s σ H D I (i D σ H q)⟩
theorem rdXR.back {x : XR} {F H F1 H1 : Hp} {σ σ1 : St} {ρ ρ1 : Rho} {D : Ends} (ok : Ok G F H σ ρ) (g : Go G F H σ ρ F1 H1 σ1 ρ1) (h : rdXR G Wx x F H σ ρ D) : rdXR G Wx x F1 H1 σ1 ρ1 D := by
  cases x with
  | nx ρ' => exact fun F' H' σ' g' => h F' H' σ' (g.trans ok g')
  | rt r ρ' => exact fun v F' H' σ' g' rr => h v F' H' σ' (g.trans ok g') (rr.back g)
  | bk ρ' => exact fun F' H' σ' g' => h F' H' σ' (g.trans ok g')
  | ct ρ' => exact fun F' H' σ' g' => h F' H' σ' (g.trans ok g')
  | exc c d ρ' => exact fun σ' => excK.back ok g (h σ')
  | bad => exact h
/-- after an expression -/
theorem to_then {f : Rho → R (Res × Rho)} {k : Res → Rho → XR} {F H : Hp} {σ : St} {ρ : Rho} {D : Ends} {Q1 : VK} (ok : Ok G F H σ ρ) (q : rdXR G Wx ((f ρ).to k) F H σ ρ D)
    (h : ∀ x F1 H1 ρ1 r, Go G F H σ ρ F1 H1 σ ρ1 → ResRep G H σ ρ F1 H1 σ ρ1 x r → rdXR G Wx (k r ρ1) F1 H1 σ ρ1 D → Q1 x H1) : rdF G Wx f σ H Q1 := by
  refine ⟨F, ρ, ok, ?_⟩
  cases r : f ρ with
  | bad => rw [r] at q; exact q
  | exc c d ρ' => rw [r] at q; exact q σ
  | ok p =>
    obtain ⟨o, ρ1⟩ := p
    rw [r] at q
    intro v F1 H1 g rr
    exact h v F1 H1 ρ1 o g rr (rdXR.back ok g q)
/-- .. seen from where it began -/
theorem to_then0 {f : Rho → R (Res × Rho)} {k : Res → Rho → XR} {F H : Hp} {σ : St} {ρ : Rho} {D : Ends} {Q1 : VK} (ok : Ok G F H σ ρ) (q : rdXR G Wx ((f ρ).to k) F H σ ρ D)
    (h : ∀ x F1 H1 ρ1 r, Go G F H σ ρ F1 H1 σ ρ1 → ResRep G H σ ρ F1 H1 σ ρ1 x r → rdXR G Wx (k r ρ1) F H σ ρ D → Q1 x H1) : rdF G Wx f σ H Q1 := by
  refine ⟨F, ρ, ok, ?_⟩
  cases r : f ρ with
  | bad => rw [r] at q; exact q
  | exc c d ρ' => rw [r] at q; exact q σ
  | ok p =>
    obtain ⟨o, ρ1⟩ := p
    rw [r] at q
    intro v F1 H1 g rr
    exact h v F1 H1 ρ1 o g rr q
theorem opt_then {o : Option Rho} {k : Rho → XR} {F H : Hp} {σ : St} {ρ : Rho} {D : Ends} (q : rdXR G Wx (XR.opt k o) F H σ ρ D) : ∃ ρ', o = some ρ' ∧ rdXR G Wx (k ρ') F H σ ρ D := by
  cases o with
  | none => exact q.elim
  | some ρ' => exact ⟨ρ', rfl, q⟩

/-! ### names set -/
theorem setR_some {ρ ρ' : Rho} {i : Nat} {s : Slot} (h : setR ρ i s = some ρ') : i < ρ.length ∧ ρ' = ρ.set i s ∧ ∀ d, ρ[i]? ≠ some (.io d) := by
  unfold setR at h
  cases e : ρ[i]? with
  | none => rw [e] at h; cases h
  | some t =>
    rw [e] at h
    have hi : i < ρ.length := (List.getElem?_eq_some_iff.mp e).1
    cases t <;> first | (cases h; done) | (cases h; exact ⟨hi, rfl, fun d z => by cases z⟩)
theorem isOw_set {ρ : Rho} {i j : Nat} {s : Slot} {d : D} (h : isOw (ρ.set i s) j d) : (j = i ∧ (s = .ow d ∨ s = .io d)) ∨ (j ≠ i ∧ isOw ρ j d) := by
  by_cases hj : j = i
  · subst hj
    have hl : j < ρ.length := by
      rcases h with h | h <;> simpa using (List.getElem?_eq_some_iff.mp h).1
    unfold isOw at h
    rw [List.getElem?_set_self hl] at h
    exact .inl ⟨rfl, h.imp Option.some.inj Option.some.inj⟩
  · unfold isOw at h ⊢
    rw [List.getElem?_set_ne (Ne.symm hj)] at h
    exact .inr ⟨hj, h⟩
/-- what a slot says of what stands there -/
def SlotRep (G : Gx) (H : Hp) (σ : St) (ρ : Rho) (F' H' : Hp) (σ' : St) (ρ' : Rho) (w : Option V) : Slot → Prop
  | .no => True
  | .sh d => ∃ v, w = some v ∧ Rep G F' d v
  | .ow d => ∃ a, w = some (.ref a) ∧ Own G F' H' d a ∧ ¬ Dp.own σ' ρ' a ∧ (H a = none ∨ Dp.own σ ρ a)
  | .io _ => False
theorem slot_of {H F' H' : Hp} {σ σ' : St} {ρ ρ' : Rho} {v : V} {r : Res} (h : ResRep G H σ ρ F' H' σ' ρ' v r) : SlotRep G H σ ρ F' H' σ' ρ' (some v) r.slot := by
  cases r with
  | sh d => exact ⟨v, rfl, h⟩
  | fr d =>
    obtain ⟨a, rfl, h⟩ := h
    exact ⟨a, rfl, h⟩
theorem go_set {F H F1 H1 : Hp} {σ σ1 : St} {ρ ρ1 ρ2 : Rho} {i : Nat} {s : Slot} {w : Option V} (g : Go G F H σ ρ F1 H1 σ1 ρ1) (h : SlotRep G H σ ρ F1 H1 σ1 ρ1 w s) (e : setR ρ1 i s = some ρ2) : Go G F H σ ρ F1 H1 (σ1.set i w) ρ2 := by
  obtain ⟨hi, rfl, nio⟩ := setR_some e
  have hs : i < σ1.length := by rw [g.ok.len]; exact hi
  have oth : ∀ {j : Nat}, j ≠ i → (σ1.set i w)[j]? = σ1[j]? := fun hj => List.getElem?_set_ne (Ne.symm hj)
  have self : (σ1.set i w)[i]? = some w := List.getElem?_set_self hs
  have owI : ∀ d, s = .ow d ∨ s = .io d → ∃ a, w = some (.ref a) ∧ Own G F1 H1 d a ∧ ¬ Dp.own σ1 ρ1 a ∧ (H a = none ∨ Dp.own σ ρ a) := fun d hd => by
    rcases hd with rfl | rfl
    · exact h
    · exact h.elim
  refine ⟨⟨by simpa using g.ok.len, g.ok.le, fun j d hj => ?_, fun j d hj => ?_, fun j k d1 d2 a hjk h3 h4 h5 h6 => ?_, g.ok.dct⟩, g.mono, g.keep, g.keepF, g.there, g.shape, fun a ha => ?_, fun j d hj => ?_⟩
  · by_cases c : j = i
    · subst c
      rw [List.getElem?_set_self hi] at hj
      have e := Option.some.inj hj
      subst e
      obtain ⟨v, rfl, r⟩ := h
      exact ⟨v, self, r⟩
    · rw [List.getElem?_set_ne (Ne.symm c)] at hj
      rw [oth c]
      exact g.ok.sh j d hj
  · rcases isOw_set hj with ⟨rfl, q⟩ | ⟨c, q⟩
    · obtain ⟨a, rfl, o, _⟩ := owI d q
      exact ⟨a, self, o⟩
    · rw [oth c]
      exact g.ok.ow j d q
  · rcases isOw_set h3 with ⟨rfl, q⟩ | ⟨c, q⟩
    · obtain ⟨b, rfl, _, n, _⟩ := owI d1 q
      rw [self] at h5
      cases h5
      rcases isOw_set h4 with ⟨rfl, _⟩ | ⟨c', q'⟩
      · exact hjk rfl
      · rw [oth c'] at h6
        exact n ⟨k, d2, q', h6⟩
    · rw [oth c] at h5
      rcases isOw_set h4 with ⟨rfl, q'⟩ | ⟨c', q'⟩
      · obtain ⟨b, rfl, _, n, _⟩ := owI d2 q'
        rw [self] at h6
        cases h6
        exact n ⟨j, d1, q, h5⟩
      · rw [oth c'] at h6
        exact g.ok.nd j k d1 d2 a hjk q q' h5 h6
  · obtain ⟨j, d, h3, h4⟩ := ha
    rcases isOw_set h3 with ⟨rfl, q⟩ | ⟨c, q⟩
    · obtain ⟨b, rfl, _, _, z⟩ := owI d q
      rw [self] at h4
      cases h4
      exact z.symm
    · rw [oth c] at h4
      exact g.own a ⟨j, d, q, h4⟩
  · obtain ⟨⟨d', h1⟩, h2⟩ := g.io j d hj
    have c : j ≠ i := fun z => by subst z; exact nio _ h1
    exact ⟨⟨d', by rw [List.getElem?_set_ne (Ne.symm c)]; exact h1⟩, by rw [oth c]; exact h2⟩

variable {e : Expr} {e' : E} {i : Nat} {x : Str} {pos pos' : Pos} {st : Stmt} {rest : List Stmt} {s' : S} {r' : List S}
theorem s_nil : PSs X [] (rdSs G W Wx []) := pss_imp pss_nil fun D σ H ⟨F, ρ, ok, q⟩ => q F H σ (Go.refl ok)
theorem seq_of {f : Rho → XR} {k : Rho → XR} {D : Ends} {σ : St} {H : Hp} (q : rdSF G Wx (fun ρ => match f ρ with | .nx ρ1 => k ρ1 | o => o) D σ H) : tSeq (rdSF G Wx f) (rdSF G Wx k) D σ H := by
  obtain ⟨F, ρ, ok, q⟩ := q
  replace q : rdXR G Wx (match f ρ with | .nx ρ1 => k ρ1 | o => o) F H σ ρ D := q
  refine ⟨F, ρ, ok, ?_⟩
  cases e : f ρ with
  | nx ρ1 =>
    rw [e] at q
    exact fun F1 H1 σ1 g => ⟨F1, ρ1, g.ok, rdXR.back ok g q⟩
  | rt r ρ' => rw [e] at q; exact q
  | bk ρ' => rw [e] at q; exact q
  | ct ρ' => rw [e] at q; exact q
  | exc c d ρ' => rw [e] at q; exact q
  | bad => rw [e] at q; exact q
theorem s_cons (h1 : PS X st (rdS G W Wx s')) (h2 : PSs X rest (rdSs G W Wx r')) : PSs X (st :: rest) (rdSs G W Wx (s' :: r')) :=
  pss_imp (pss_cons h1 h2) fun D σ H q => seq_of q
theorem s_pass : PS X (.Pass pos) (rdS G W Wx .pass) := ps_imp ps_pass fun D σ H ⟨F, ρ, ok, q⟩ => q F H σ (Go.refl ok)
theorem s_brk : PS X (.Break pos) (rdS G W Wx .brk) := ps_imp ps_break fun D σ H ⟨F, ρ, ok, q⟩ => q F H σ (Go.refl ok)
theorem s_cont : PS X (.Continue pos) (rdS G W Wx .cont) := ps_imp ps_continue fun D σ H ⟨F, ρ, ok, q⟩ => q F H σ (Go.refl ok)
theorem s_doc {x : Str} {j : Nat} : PS X (.Expr (.Constant (.str x) j pos) pos') (rdS G W Wx .pass) := ps_imp ps_doc fun D σ H ⟨F, ρ, ok, q⟩ => q F H σ (Go.refl ok)
theorem s_expr (he : PE X e (rdE G W Wx e')) (hs : swapsWith e none pos.line X.env = pure false := by rfl) : PS X (.Expr e pos) (rdS G W Wx (.expr e')) :=
  ps_imp (ps_expr he hs) fun D σ H ⟨F, ρ, ok, q⟩ => to_then (k := fun _ ρ1 => .nx ρ1) ok q fun v F1 H1 ρ1 r g rr q1 => q1 F1 H1 σ (Go.refl g.ok)
theorem s_ret (he : PE X e (rdE G W Wx e')) : PS X (.Return (some e) pos) (rdS G W Wx (.ret e')) := by
  refine ps_imp (ps_ret he) fun D σ H ⟨F, ρ, ok, q⟩ => ⟨F, ρ, ok, ?_⟩
  have q0 : rdXR G Wx ((ev W e' ρ).to fun r ρ1 => .rt r ρ1) F H σ ρ D := q
  cases r : ev W e' ρ with
  | bad => rw [r] at q0; exact q0
  | exc c d ρ' => rw [r] at q0; exact q0 σ
  | ok p => rw [r] at q0; exact fun v F1 H1 g rr => q0 v F1 H1 σ g rr
theorem s_retN : PS X (.Return none pos) (rdS G W Wx .retN) := ps_imp ps_retN fun D σ H ⟨F, ρ, ok, q⟩ => q .non F H σ (Go.refl ok) (show Rep G F .non .non from rep_non)
theorem s_set (hN : X.N.Nodup) (hi : X.N[i]? = some x) (hx : Loc X.env.scope x) (he : PE X e (rdE G W Wx e')) (hs : swapsWith e (some (.Name x pos')) pos.line X.env = pure false := by rfl)
    (hf : X.fn x = true ∨ X.env.scope.names.lookup x = some .local := by first | exact .inl rfl | exact .inr rfl | assumption) : PS X (.Assign [.Name x pos'] e pos) (rdS G W Wx (.set i e')) := by
  refine ps_imp (ps_set hN hi hx he hs hf) fun D σ H ⟨F, ρ, ok, q⟩ => ?_
  refine to_then0 (k := fun r ρ1 => XR.opt .nx (setR ρ1 i r.slot)) ok q fun v F1 H1 ρ1 r g rr q1 => ?_
  obtain ⟨ρ2, e2, q2⟩ := opt_then q1
  exact q2 F1 H1 _ (go_set g (slot_of rr) e2)
/-- a, b = x, y -/
theorem s_par {j k k2 : Nat} {y : Str} {a b : Expr} {a' b' : E} {px py pt pt2 : Pos} (hc : X.calm = true) (hN : X.N.Nodup) (hi : X.N[i]? = some x) (hj : X.N[j]? = some y) (hij : i ≠ j)
    (hx : X.env.scope.names.lookup x = some .local) (hy : X.env.scope.names.lookup y = some .local) (ha : PA X [a, b] (rdLF G Wx (evL W [a', b'])))
    (hw : swappedStores [.Tuple [.Name x px, .Name y py] k pt] (.Tuple [a, b] k2 pt2) X.env = pure (some [x, y]) := by rfl)
    (hs : swapsWithSole [.Tuple [.Name x px, .Name y py] k pt] (.Tuple [a, b] k2 pt2) pos.line X.env = pure false := by rfl) :
    PS X (.Assign [.Tuple [.Name x px, .Name y py] k pt] (.Tuple [a, b] k2 pt2) pos) (rdS G W Wx (.par i j a' b')) := by
  refine ps_imp (ps_par hc hN hi hj hij hx hy ha hw hs) fun D σ H ⟨F, ρ, ok, q⟩ => ⟨F, ρ, ok, ?_⟩
  have q0 : rdXR G Wx ((ev W a' ρ).to fun r ρ1 => (ev W b' ρ1).to fun r' ρ2 => XR.opt (fun ρ3 => XR.opt .nx (setR ρ3 j (.sh r'.d))) (setR ρ2 i (.sh r.d))) F H σ ρ D := q
  clear q
  have en : evL W [a', b'] ρ = (ev W a' ρ).bind fun (x, ρ1) => (ev W b' ρ1).bind fun (y, ρ2) => .ok ([x.d, y.d], ρ2) := by
    show (ev W a' ρ).bind (fun p => (evL W [b'] p.2).bind _) = _
    cases ev W a' ρ with
    | bad => rfl
    | exc c d ρ' => rfl
    | ok p =>
      show R.bind (R.bind (ev W b' p.2) _) _ = R.bind (ev W b' p.2) _
      cases ev W b' p.2 <;> rfl
  rw [en]
  cases r1 : ev W a' ρ with
  | bad => rw [r1] at q0; exact q0
  | exc c d ρ' => rw [r1] at q0; exact q0 σ
  | ok p =>
    obtain ⟨x1, ρ1⟩ := p
    rw [r1] at q0
    replace q0 : rdXR G Wx ((ev W b' ρ1).to fun r' ρ2 => XR.opt (fun ρ3 => XR.opt .nx (setR ρ3 j (.sh r'.d))) (setR ρ2 i (.sh x1.d))) F H σ ρ D := q0
    simp only [R.bind]
    cases r2 : ev W b' ρ1 with
    | bad => rw [r2] at q0; exact q0
    | exc c d ρ' => rw [r2] at q0; exact q0 σ
    | ok p =>
      obtain ⟨x2, ρ2⟩ := p
      rw [r2] at q0
      intro vs F1 H1 g rl
      obtain ⟨ρ3, e3, q3⟩ := opt_then q0
      obtain ⟨ρ4, e4, q4⟩ := opt_then q3
      unfold RepL at rl
      obtain ⟨v, us, rfl, h1, rl⟩ := rl
      unfold RepL at rl
      obtain ⟨w, us, rfl, h2, rl⟩ := rl
      unfold RepL at rl
      subst rl
      exact ⟨v, w, rfl, q4 F1 H1 _ (go_set (go_set g (s := .sh x1.d) ⟨v, rfl, h1⟩ e3) (s := .sh x2.d) ⟨w, rfl, h2⟩ e4)⟩

/-! ### targets -/
def rdG (G : Gx) (t : T) : TG := fun v σ H Q => ∃ F ρ d, Ok G F H σ ρ ∧ Rep G F d v ∧ match bindT t d ρ with
  | some ρ' => ∀ σ', Go G F H σ ρ F H σ' ρ' → (∀ j, hasT t j = false → σ'[j]? = σ[j]?) → Q σ' H
  | none => False
def rdGs (G : Gx) (ts : List T) : TGs := fun vs σ H Q => ∃ F ρ ds, Ok G F H σ ρ ∧ RepL G F ds vs ∧ match bindTs ts ds ρ with
  | some ρ' => ∀ σ', Go G F H σ ρ F H σ' ρ' → (∀ j, hasTs ts j = false → σ'[j]? = σ[j]?) → Q σ' H
  | none => False
theorem pg_imp {e : Expr} {t t' : TG} (h : PG X e t) (i : ∀ v σ H Q, t' v σ H Q → t v σ H Q) : PG X e t' := ⟨fun p s σ H v u Q I r q => h.run p s σ H v u Q I r (i v σ H Q q)⟩
theorem pgs_imp {e : List Expr} {t t' : TGs} (h : PGs X e t) (i : ∀ v σ H Q, t' v σ H Q → t v σ H Q) : PGs X e t' := ⟨fun p s σ H v u Q I r q => h.run p s σ H v u Q I r (i v σ H Q q)⟩
theorem g_nm (hN : X.N.Nodup) (hi : X.N[i]? = some x) (hx : Loc X.env.scope x) (hf : X.fn x = true ∨ X.env.scope.names.lookup x = some .local := by first | exact .inl rfl | exact .inr rfl | assumption) : PG X (.Name x pos) (rdG G (.nm i)) := by
  refine pg_imp (pg_name hN hi hx hf) fun v σ H Q ⟨F, ρ, d, ok, r, q⟩ => ?_
  cases e : bindT (.nm i) d ρ with
  | none => rw [e] at q; exact q.elim
  | some ρ' =>
    rw [e] at q
    have e2 : setR ρ i (.sh d) = some ρ' := by
      unfold bindT at e
      unfold setR
      exact e
    exact q _ (go_set (Go.refl ok) (s := .sh d) ⟨v, rfl, r⟩ e2) fun j hj => List.getElem?_set_ne (fun z => by subst z; unfold hasT at hj; simp at hj)
theorem gs_nil : PGs X [] (rdGs G []) := by
  refine pgs_imp pgs_nil fun vs σ H Q ⟨F, ρ, ds, ok, r, q⟩ => ?_
  cases ds with
  | nil =>
    unfold RepL at r
    exact ⟨r, q σ (Go.refl ok) fun _ _ => rfl⟩
  | cons d ds => exact q.elim
theorem gs_cons {t : T} {ts : List T} {es : List Expr} (h1 : PG X e (rdG G t)) (h2 : PGs X es (rdGs G ts))
    (hs : (assignEach (e :: es) X.env).map (·.2) = assign e X.env :: (assignEach es X.env).map (·.2) := by rfl) : PGs X (e :: es) (rdGs G (t :: ts)) := by
  refine pgs_imp (pgs_cons h1 h2 hs) fun vs σ H Q ⟨F, ρ, ds, ok, r, q⟩ => ?_
  cases ds with
  | nil => exact q.elim
  | cons d ds =>
    unfold RepL at r
    obtain ⟨u, us, rfl, r1, r2⟩ := r
    replace q : match (match bindT t d ρ with | some ρ' => bindTs ts ds ρ' | none => none) with
      | some ρ' => ∀ σ', Go G F H σ ρ F H σ' ρ' → (∀ j, hasTs (t :: ts) j = false → σ'[j]? = σ[j]?) → Q σ' H
      | none => False := q
    refine ⟨u, us, rfl, F, ρ, d, ok, r1, ?_⟩
    cases e1 : bindT t d ρ with
    | none => rw [e1] at q; exact q
    | some ρ1 =>
      rw [e1] at q
      replace q : match bindTs ts ds ρ1 with
        | some ρ' => ∀ σ', Go G F H σ ρ F H σ' ρ' → (∀ j, hasTs (t :: ts) j = false → σ'[j]? = σ[j]?) → Q σ' H
        | none => False := q
      intro σ1 g1 k1
      refine ⟨F, ρ1, ds, g1.ok, r2, ?_⟩
      cases e2 : bindTs ts ds ρ1 with
      | none => rw [e2] at q; exact q
      | some ρ2 =>
        rw [e2] at q
        exact fun σ2 g2 k2 => q σ2 (g1.trans ok g2) fun j hj => by
          unfold hasTs at hj
          rw [Bool.or_eq_false_iff] at hj
          exact (k2 j hj.2).trans (k1 j hj.1)
theorem bindTs_len : ∀ {ts : List T} {ds : List D} {ρ ρ' : Rho}, bindTs ts ds ρ = some ρ' → ds.length = ts.length
  | [], [], _, _, _ => rfl
  | [], _ :: _, _, _, h => nomatch h
  | _ :: _, [], _, _, h => nomatch h
  | t :: ts, d :: ds, ρ, ρ', h => by
    have h' : (match bindT t d ρ with | some ρ' => bindTs ts ds ρ' | none => none) = some ρ' := h
    cases e : bindT t d ρ with
    | none => rw [e] at h'; cases h'
    | some ρ1 => rw [e] at h'; rw [List.length_cons, List.length_cons, bindTs_len h']
theorem g_tp {ts : List T} {es : List Expr} {k : Nat} (hK : G.K = X.K) (hc : X.calm = true) (h : PGs X es (rdGs G ts)) (hn : (assignEach es X.env).length = ts.length := by rfl)
    (hst : (assignEach es X.env).findIdx? (·.1) = none := by rfl) : PG X (.Tuple es k pos) (rdG G (.tp ts)) := by
  refine pg_imp (pg_tup hc h hn hst) fun v σ H Q ⟨F, ρ, d, ok, r, q⟩ => ?_
  cases d <;> first | exact q.elim | skip
  rename_i ds
  unfold Rep at r
  obtain ⟨a, vs, rfl, h1, h2⟩ := r
  rw [hK] at h1
  replace q : match bindTs ts ds ρ with
    | some ρ' => ∀ σ', Go G F H σ ρ F H σ' ρ' → (∀ j, hasTs ts j = false → σ'[j]? = σ[j]?) → Q σ' H
    | none => False := q
  refine ⟨a, vs, rfl, sqt_mono ok.le h1, ?_, F, ρ, ds, ok, h2, q⟩
  cases e : bindTs ts ds ρ with
  | none => rw [e] at q; exact q.elim
  | some ρ' => rw [h2.len, bindTs_len e]
theorem s_unp {t : T} {tg : Expr} (he : PE X e (rdE G W Wx e')) (hg : PG X tg (rdG G t)) (hs : swapsWithSole [tg] e pos.line X.env = pure false := by rfl) (hw : swappedStores [tg] e X.env = pure none := by rfl)
    (h1 : (assignEach [tg] X.env).map (·.2) = [assign tg X.env] := by rfl) : PS X (.Assign [tg] e pos) (rdS G W Wx (.unp t e')) := by
  refine ps_imp (ps_asg he hg hs hw h1) fun D σ H ⟨F, ρ, ok, q⟩ => ?_
  refine to_then0 (k := fun r ρ1 => XR.opt .nx (bindT t r.d ρ1)) ok q fun v F1 H1 ρ1 r g rr q1 => ?_
  obtain ⟨ρ2, e2, q2⟩ := opt_then q1
  obtain ⟨F2, g2, m, rep⟩ := freeze ok g rr
  refine ⟨F2, ρ1, r.d, g2.ok, rep, ?_⟩
  rw [e2]
  exact fun σ' g3 _ => q2 F2 H1 σ' (g2.trans ok g3)
end
end Dp
/-! Own objects changed; if, while, for. -/
namespace Dp
open PySem PySem.Spec PyProof.Rows L2

section
variable {X : Cx} {G : Gx} {W : Wd} {Wx : WX}
theorem get_slot {F H : Hp} {σ : St} {ρ : Rho} {i : Nat} {d : D} (ok : Ok G F H σ ρ) (h : (Opd.at i).get ρ = some d) : ∃ v, σ[i]? = some (some v) ∧ Rdv G F H d v := by
  rw [opd_at] at h
  cases e3 : ρ[i]? with
  | none => rw [e3] at h; cases h
  | some s =>
    rw [e3] at h
    cases s with
    | no => cases h
    | sh d' =>
      obtain ⟨v, h1, h2⟩ := ok.sh i d' e3
      have e : d' = d := Option.some.inj h
      exact ⟨v, h1, .inl (e ▸ h2)⟩
    | ow d' =>
      obtain ⟨a, h1, h2⟩ := ok.ow i d' (.inl e3)
      have e : d' = d := Option.some.inj h
      exact ⟨_, h1, .inr ⟨a, rfl, e ▸ h2⟩⟩
    | io d' =>
      obtain ⟨a, h1, h2⟩ := ok.ow i d' (.inr e3)
      have e : d' = d := Option.some.inj h
      exact ⟨_, h1, .inr ⟨a, rfl, e ▸ h2⟩⟩
theorem gd_then {F H : Hp} {σ : St} {ρ : Rho} {i : Nat} {x : XR} {D : Ends} (ok : Ok G F H σ ρ) (q : rdXR G Wx (gd ρ i x) F H σ ρ D) : ∃ d v, (Opd.at i).get ρ = some d ∧ σ[i]? = some (some v) ∧ rdXR G Wx x F H σ ρ D := by
  unfold gd at q
  cases e : (Opd.at i).get ρ with
  | none => rw [e] at q; exact q.elim
  | some d =>
    rw [e] at q
    obtain ⟨v, h, _⟩ := get_slot ok e
    exact ⟨d, v, rfl, h, q⟩
theorem gdl_then {F H : Hp} {σ : St} {ρ : Rho} {i : Nat} {x : XR} {D : Ends} (ok : Ok G F H σ ρ) (q : rdXR G Wx (gdl ρ i x) F H σ ρ D) : ∃ xs p vs, (Opd.at i).get ρ = some (.lst xs) ∧ σ[i]? = some (some (.ref p)) ∧ H p = some (.lst vs) ∧ rdXR G Wx x F H σ ρ D := by
  unfold gdl at q
  cases e : (Opd.at i).get ρ with
  | none => rw [e] at q; exact q.elim
  | some d =>
    rw [e] at q
    cases d <;> first | exact q.elim | skip
    obtain ⟨v, h, r⟩ := get_slot ok e
    obtain ⟨p, vs, rfl, h1, _⟩ := rdv_lst ok.le r
    exact ⟨_, p, vs, rfl, h, h1, q⟩
/-- what modR found -/
theorem modR_some {ρ ρ' : Rho} {a : Nat} {f : D → Option D} (h : modR ρ a f = some ρ') : ∃ d d', isOw ρ a d ∧ f d = some d' ∧ (ρ' = ρ.set a (.ow d') ∧ ρ[a]? = some (.ow d) ∨ ρ' = ρ.set a (.io d') ∧ ρ[a]? = some (.io d)) := by
  unfold modR at h
  cases e : ρ[a]? with
  | none => rw [e] at h; cases h
  | some s =>
    rw [e] at h
    cases s with
    | no => cases h
    | sh d => cases h
    | ow d =>
      replace h : (f d).map (fun d' => ρ.set a (.ow d')) = some ρ' := h
      cases e2 : f d with
      | none => rw [e2] at h; cases h
      | some d' => rw [e2] at h; cases h; exact ⟨d, d', .inl e, e2, .inl ⟨rfl, rfl⟩⟩
    | io d =>
      replace h : (f d).map (fun d' => ρ.set a (.io d')) = some ρ' := h
      cases e2 : f d with
      | none => rw [e2] at h; cases h
      | some d' => rw [e2] at h; cases h; exact ⟨d, d', .inr e, e2, .inr ⟨rfl, rfl⟩⟩
theorem go_mod {F H : Hp} {σ : St} {ρ ρ' : Rho} {a : Nat} {f : D → Option D} (ok : Ok G F H σ ρ) (e : modR ρ a f = some ρ') : ∃ d d' p, f d = some d' ∧ σ[a]? = some (some (.ref p)) ∧ Own G F H d p ∧
    ∀ o', (∀ b, o' ≠ .own b) → Own G F (upd H p o') d' p → Go G F H σ ρ F (upd H p o') σ ρ' := by
  obtain ⟨d, d', hd, hf, hr⟩ := modR_some e
  obtain ⟨p, hp, o⟩ := ok.ow a d hd
  refine ⟨d, d', p, hf, hp, o, fun o' no own' => ?_⟩
  have ha : a < ρ.length := by rcases hd with h | h <;> exact (List.getElem?_eq_some_iff.mp h).1
  have hl : ρ'.length = ρ.length := by rcases hr with ⟨rfl, _⟩ | ⟨rfl, _⟩ <;> simp
  have oth : ∀ {j : Nat}, j ≠ a → ρ'[j]? = ρ[j]? := fun hj => by rcases hr with ⟨rfl, _⟩ | ⟨rfl, _⟩ <;> exact List.getElem?_set_ne (Ne.symm hj)
  have self : ρ'[a]? = some (.ow d') ∨ ρ'[a]? = some (.io d') := by
    rcases hr with ⟨rfl, _⟩ | ⟨rfl, _⟩
    · exact .inl (List.getElem?_set_self ha)
    · exact .inr (List.getElem?_set_self ha)
  have fp := o.1
  have owj : ∀ {j : Nat} {e : D}, isOw ρ' j e → (j = a ∧ e = d') ∨ (j ≠ a ∧ isOw ρ j e) := fun {j e} h => by
    by_cases c : j = a
    · subst c
      refine .inl ⟨rfl, ?_⟩
      rcases h with h | h <;> rcases self with s | s <;> rw [s] at h <;> cases h <;> rfl
    · unfold isOw at h
      rw [oth c] at h
      exact .inr ⟨c, h⟩
  have owEx : ∀ {j : Nat} {e : D}, isOw ρ' j e → ∃ e', isOw ρ j e' := fun {j e} h => by
    rcases owj h with ⟨rfl, _⟩ | ⟨_, h⟩
    · exact ⟨d, hd⟩
    · exact ⟨e, h⟩
  have up : ∀ {b u}, b ≠ p → H b = some u → upd H p o' b = some u := fun hb h => by rw [upd_ne hb]; exact h
  have down : ∀ {b c}, upd H p o' b = some (.own c) → b ≠ p ∧ H b = some (.own c) := fun {b c} h => by
    by_cases hb : b = p
    · subst hb; rw [upd_same] at h; cases h; exact absurd rfl (no c)
    · rw [upd_ne hb] at h; exact ⟨hb, h⟩
  have there : ∀ b, H b ≠ none → upd H p o' b ≠ none := fun b h => by
    by_cases hb : b = p
    · subst hb; rw [upd_same]; simp
    · rw [upd_ne hb]; exact h
  refine ⟨⟨by rw [hl]; exact ok.len, fun b u h => ?_, fun j e h => ?_, fun j e h => ?_, fun j k e1 e2 b hjk h1 h2 h3 h4 => ?_, fun b c h => ?_⟩, fun _ _ h => h, fun b u h n => ?_, fun _ _ _ h => h, there, fun b c h => .inr (down h).2, fun b ⟨j, e, h1, h2⟩ => ?_, fun j e h => ?_⟩
  · exact up (ne_of_none h fp) (ok.le _ _ h)
  · have c : j ≠ a := fun z => by subst z; rcases self with s | s <;> rw [s] at h <;> cases h
    rw [oth c] at h
    exact ok.sh j e h
  · rcases owj h with ⟨rfl, rfl⟩ | ⟨c, h1⟩
    · exact ⟨p, hp, own'⟩
    · obtain ⟨b, h2, h3⟩ := ok.ow j e h1
      have hb : b ≠ p := fun z => by subst z; exact ok.nd j a e d b c h1 hd h2 hp
      exact ⟨b, h2, h3.keep (fun _ _ q => q) h3.1 (fun u q => up hb q) fun dx q => ⟨up (fun z => by subst z; exact o.notOwn q) q, fun z => z⟩⟩
  · obtain ⟨e1', q1⟩ := owEx h1
    obtain ⟨e2', q2⟩ := owEx h2
    exact ok.nd j k e1' e2' b hjk q1 q2 h3 h4
  · exact there c (ok.dct _ _ (down h).2)
  · exact up (fun z => by subst z; exact n ⟨a, d, hd, hp⟩) h
  · obtain ⟨e', q⟩ := owEx h1
    exact .inl ⟨j, e', q, h2⟩
  · refine ⟨?_, rfl⟩
    by_cases c : j = a
    · subst c
      rcases hr with ⟨rfl, z⟩ | ⟨rfl, z⟩
      · rw [z] at h; cases h
      · exact ⟨d', List.getElem?_set_self ha⟩
    · exact ⟨e, by rw [oth c]; exact h⟩
/-- .. a list -/
theorem go_modL {F H : Hp} {σ : St} {ρ ρ' : Rho} {a : Nat} {f : D → Option D} (ok : Ok G F H σ ρ) (e : modR ρ a f = some ρ') (hl : ∀ d d', f d = some d' → ∃ xs ys, d = .lst xs ∧ d' = .lst ys) :
    ∃ xs ys p vs, f (.lst xs) = some (.lst ys) ∧ σ[a]? = some (some (.ref p)) ∧ H p = some (.lst vs) ∧ RepL G F xs vs ∧ ∀ ws, RepL G F ys ws → Go G F H σ ρ F (upd H p (.lst ws)) σ ρ' := by
  obtain ⟨d, d', p, hf, hp, o, k⟩ := go_mod ok e
  obtain ⟨xs, ys, rfl, rfl⟩ := hl d d' hf
  obtain ⟨fp, vs, h1, h2⟩ := o
  exact ⟨xs, ys, p, vs, hf, hp, h1, h2, fun ws r => k _ (fun _ z => nomatch z) ⟨fp, ws, upd_same, r⟩⟩

variable {o e ix c : Expr} {e' i' c' : E} {a i : Nat} {x : Str} {pos pos' tpos : Pos} {st : Stmt}
theorem setAt_lst {k v d d' : D} (h : setAt k v d = some d') : ∃ xs n j, d = .lst xs ∧ k = .int n ∧ ixN xs.length n = some j ∧ d' = .lst (xs.set j v) := by
  unfold setAt at h
  split at h
  · rename_i xs
    split at h
    · rename_i n
      cases e : ixN xs.length n with
      | none => rw [e] at h; cases h
      | some j => rw [e] at h; cases h; exact ⟨xs, n, j, rfl, rfl, e, rfl⟩
    · cases h
  · cases h
theorem s_setIx (ho : PE X o (tVar a)) (hi : PE X ix (rdE G W Wx i')) (he : PE X e (rdE G W Wx e')) (hs : swapsWithSole [.Subscript o ix tpos] e pos.line X.env = pure false := by rfl) (hw : swappedStores [.Subscript o ix tpos] e X.env = pure none := by rfl)
    (h1 : (assignEach [.Subscript o ix tpos] X.env).map (·.2) = [assign (.Subscript o ix tpos) X.env] := by rfl)
    (ha : ∀ v, assign (.Subscript o ix tpos) X.env v = (do
      let ov ← holding [v] (eval o X.env)
      let iv ← holding [v, ov] (eval ix X.env)
      standAt tpos
      holding [v, ov, iv] (setItem ov iv v)
      release [v, ov, iv] []) := by intro _; rfl) : PS X (.Assign [.Subscript o ix tpos] e pos) (rdS G W Wx (.setIx a i' e')) := by
  refine ps_imp (ps_asg he (pg_sub ho hi set_list ha) hs hw h1) fun D σ H ⟨F, ρ, ok, q⟩ => ?_
  refine to_then0 (k := fun r ρ1 => gd ρ1 a ((ev W i' ρ1).to fun k ρ2 => XR.opt .nx (modR ρ2 a (setAt k.d r.d)))) ok q fun v F1 H1 ρ1 r g rr q1 => ?_
  obtain ⟨F2, g2, m, rep⟩ := freeze ok g rr
  obtain ⟨_, w, _, hw, q2⟩ := gd_then g2.ok (rdXR.back ok g2 q1)
  refine ⟨w, hw, ?_⟩
  refine to_then (k := fun k ρ2 => XR.opt .nx (modR ρ2 a (setAt k.d r.d))) g2.ok q2 fun y F3 H3 ρ3 r3 g3 rr3 q3 => ?_
  obtain ⟨ρ4, e4, q4⟩ := opt_then q3
  obtain ⟨xs, ys, p, vs, hf, hp, h5, h6, k⟩ := go_modL g3.ok e4 (fun d d' h => by obtain ⟨xs, _, _, rfl, _, _, rfl⟩ := setAt_lst h; exact ⟨_, _, rfl, rfl⟩)
  obtain ⟨xs', n, j, e5, e6, e7, e8⟩ := setAt_lst hf
  cases e5
  cases e8
  rw [hw] at hp
  cases hp
  have ey : y = .int n := by
    cases r3 with
    | sh d => rw [show d = .int n from e6] at rr3; unfold ResRep Rep at rr3; exact rr3
    | fr d => obtain ⟨_, _, z, _⟩ := rr3; rw [show d = .int n from e6] at z; exact z.2.elim
  subst ey
  rw [← h6.len] at e7
  exact ⟨p, vs, n, j, rfl, rfl, h5, e7, q4 F3 _ _ (k _ (h6.set j (rep.mono g3.mono)))⟩
/-- op= of ints -/
def ipA (bo : BOp) : TIp := fun x y H Q => ∃ i j z, x = .int i ∧ y = .int j ∧ aop bo i j = some z ∧ Q (.int z) H
theorem aip_add : PIp X .Add (ipA .add) := fun pins s σ H x y v u Q I r1 r2 h => by
  obtain ⟨i, j, z, e1, e2, e3, q⟩ := h
  cases e3
  exact iop_add pins s σ H x y v u Q I r1 r2 ⟨i, j, e1, e2, q⟩
theorem aip_sub : PIp X .Sub (ipA .sub) := fun pins s σ H x y v u Q I r1 r2 h => by
  obtain ⟨i, j, z, e1, e2, e3, q⟩ := h
  cases e3
  exact iop_sub pins s σ H x y v u Q I r1 r2 ⟨i, j, e1, e2, q⟩
theorem aip_mul : PIp X .Mult (ipA .mul) := fun pins s σ H x y v u Q I r1 r2 h => by
  obtain ⟨i, j, z, rfl, rfl, e3, q⟩ := h
  obtain ⟨t, rfl⟩ := r1
  obtain ⟨t', rfl⟩ := r2
  replace e3 : (if mulOk i j then some (i * j) else none) = some z := e3
  split at e3
  · rename_i hm
    cases e3
    have hm' : Builtin.Int.intBits i + Builtin.Int.intBits j ≤ 134217728 := by have := of_decide_eq_true hm; omega
    exact imul_int ⟨.int _, H, I.tok _, ⟨_, rfl⟩, q⟩ (IntMulOk.of_le (Nat.le_refl _) (Nat.le_refl _) hm')
  · cases e3
theorem aip_fdiv : PIp X .FloorDiv (ipA .fdiv) := fun pins s σ H x y v u Q I r1 r2 h => by
  obtain ⟨i, j, z, e1, e2, e3, q⟩ := h
  replace e3 : (if decide (0 < j) && decide (j < 1073741824) then some (i / j) else none) = some z := e3
  split at e3
  · rename_i hm
    cases e3
    rw [Bool.and_eq_true] at hm
    exact iop_fdiv pins s σ H x y v u Q I r1 r2 ⟨i, j, e1, e2, ⟨of_decide_eq_true hm.1, of_decide_eq_true hm.2⟩, q⟩
  · cases e3
theorem aip_mod : PIp X .Mod (ipA .mod) := fun pins s σ H x y v u Q I r1 r2 h => by
  obtain ⟨i, j, z, e1, e2, e3, q⟩ := h
  replace e3 : (if 0 < j then some (i % j) else none) = some z := e3
  split at e3
  · rename_i hm
    cases e3
    exact iop_mod pins s σ H x y v u Q I r1 r2 ⟨i, j, e1, e2, hm, q⟩
  · cases e3
theorem s_aug {op : Operator} {bo : BOp} (hN : X.N.Nodup) (hi : X.N[i]? = some x) (hx : Loc X.env.scope x) (ho : PIp X op (ipA bo)) (he : PE X e (rdE G W Wx e'))
    (hf : X.fn x = true ∨ X.env.scope.names.lookup x = some .local := by first | exact .inl rfl | exact .inr rfl | assumption) : PS X (.AugAssign (.Name x pos') op e pos) (rdS G W Wx (.aug bo i e')) := by
  refine ps_imp (ps_aug hN hi hx he ho hf) fun D σ H ⟨F, ρ, ok, q⟩ => ?_
  obtain ⟨_, w, _, hw, q2⟩ := gd_then ok q
  refine ⟨w, hw, ?_⟩
  refine to_then0 (k := fun r ρ1 => match ρ1[i]? with
      | some (.sh (.int x)) => (match r.d with
        | .int y => (match aop bo x y with
          | some z => XR.opt .nx (setR ρ1 i (.sh (.int z)))
          | none => .bad)
        | _ => .bad)
      | _ => .bad) ok q2 fun v F1 H1 ρ1 r g rr q3 => ?_
  split at q3
  · rename_i x e1
    split at q3
    · rename_i y e2
      split at q3
      · rename_i z e3
        obtain ⟨ρ2, e4, q4⟩ := opt_then q3
        obtain ⟨w', h1, h2⟩ := g.ok.sh i _ e1
        rw [hw] at h1
        cases h1
        refine ⟨x, y, z, by unfold Rep at h2; exact h2, ?_, e3, q4 F1 H1 _ (go_set g (s := .sh (.int z)) ⟨_, rfl, rep_int⟩ e4)⟩
        cases r with
        | sh d => rw [show d = .int y from e2] at rr; unfold ResRep Rep at rr; exact rr
        | fr d => obtain ⟨_, _, z, _⟩ := rr; rw [show d = .int y from e2] at z; exact z.2.elim
      · exact q3.elim
    · exact q3.elim
  · exact q3.elim
/-- o[i] by values, of a list -/
theorem get_listV : PGet X (fun o ix H Q => ∃ p xs i v, o = .ref p ∧ ix = .int i ∧ H p = some (.lst xs) ∧ atI xs i = some v ∧ Q v H) := by
  intro pins s σ H o ix ov iv Q I ro ri h
  obtain ⟨p, xs, i, z, rfl, rfl, hp, he, q⟩ := h
  cases ro
  obtain ⟨t, rfl⟩ := ri
  obtain ⟨its, r, pl, hz⟩ := I.list (.of hp)
  obtain ⟨j, h1, h2, h3, h4, h5⟩ := atI_get he
  obtain ⟨w, ew, rw'⟩ := r.get h2
  have hl := r.length
  have hn := line63
  have done : EP X pins σ Q w s := ⟨z, H, I, rw', q⟩
  by_cases h0 : 0 ≤ i
  · have hj : i.toNat = j := by rw [seqIndex_of h0 h5] at h1; exact Option.some.inj h1
    exact wpAny_getItem_list pl.isList h0 (by omega) (by rw [hj]; simpa using ew) done
  · have hj : (i + (its.toArray.size : Int)).toNat = j := by rw [seqIndex_neg (by omega) h4] at h1; rw [List.size_toArray, ← hl]; exact Option.some.inj h1
    exact wpAny_getItem_list_neg pl.isList (by omega) (by rw [List.size_toArray] <;> omega) (by omega) (by rw [hj]; simpa using ew) done
theorem ixD_lst {xs : List D} {k d : D} (h : ixD (.lst xs) k = some d) : ∃ i, k = .int i ∧ L2.atI xs i = some d := by
  cases k <;> first | (cases h; done) | exact ⟨_, rfl, h⟩
theorem res_int {H F' H' : Hp} {σ σ' : St} {ρ ρ' : Rho} {v : V} {r : Res} {n : Int} (h : ResRep G H σ ρ F' H' σ' ρ' v r) (e : r.d = .int n) : v = .int n := by
  cases r with
  | sh d => rw [show d = .int n from e] at h; unfold ResRep Rep at h; exact h
  | fr d => obtain ⟨_, _, z, _⟩ := h; rw [show d = .int n from e] at z; exact z.2.elim
theorem s_augIx {op : Operator} {bo : BOp} (ho : PE X o (tVar a)) (hi : PE X ix (rdE G W Wx i')) (hp : PIp X op (ipA bo)) (he : PE X e (rdE G W Wx e'))
    (ha : ∀ ov iv new, augStore ix ov iv new = (do holding [new, ov, iv] (setItem ov iv new); release [new, ov, iv] []; pure .next) := by intros; rfl) : PS X (.AugAssign (.Subscript o ix tpos) op e pos) (rdS G W Wx (.augIx bo a i' e')) := by
  refine ps_imp (ps_augS ho hi get_listV he hp set_list ha) fun D σ H ⟨F, ρ, ok, q⟩ => ?_
  obtain ⟨_, w, _, hw, q2⟩ := gd_then ok q
  refine ⟨w, hw, ?_⟩
  refine to_then (k := fun k ρ1 => match (Opd.at a).get ρ1 with
      | some (.lst xs) => (match ixD (.lst xs) k.d with
        | some (.int x) => (ev W e' ρ1).to fun r ρ2 => (match r.d with
          | .int y => (match aop bo x y with
            | some z => XR.opt .nx (modR ρ2 a (setAt k.d (.int z)))
            | none => .bad)
          | _ => .bad)
        | _ => .bad)
      | _ => .bad) ok q2 fun v F1 H1 ρ1 k g1 rr1 q3 => ?_
  split at q3
  · rename_i xs e1
    split at q3
    · rename_i x e2
      obtain ⟨n, e3, e4⟩ := ixD_lst e2
      obtain ⟨w', h1, h2⟩ := get_slot g1.ok e1
      rw [hw] at h1
      cases h1
      obtain ⟨p, vs, rfl, h3, h4⟩ := rdv_lst g1.ok.le h2
      obtain ⟨u, h5, h6⟩ := repL_at h4 e4
      have eu : u = .int x := by unfold Rep at h6; exact h6
      subst eu
      refine ⟨p, vs, n, .int x, rfl, res_int rr1 e3, h3, h5, ?_⟩
      refine to_then (k := fun r ρ2 => (match r.d with
          | .int y => (match aop bo x y with
            | some z => XR.opt .nx (modR ρ2 a (setAt k.d (.int z)))
            | none => .bad)
          | _ => .bad)) g1.ok q3 fun y' F2 H2 ρ2 r g2 rr2 q4 => ?_
      split at q4
      · rename_i y e5
        split at q4
        · rename_i z e6
          obtain ⟨ρ4, e7, q5⟩ := opt_then q4
          obtain ⟨xs2, ys2, p2, vs2, hf, hp2, h7, h8, kk⟩ := go_modL g2.ok e7 (fun d d' h => by obtain ⟨xs, _, _, rfl, _, _, rfl⟩ := setAt_lst h; exact ⟨_, _, rfl, rfl⟩)
          obtain ⟨xs', n', j, c5, c6, c7, c8⟩ := setAt_lst hf
          cases c5
          cases c8
          rw [hw] at hp2
          cases hp2
          rw [e3] at c6
          cases c6
          rw [← h8.len] at c7
          exact ⟨x, y, z, rfl, res_int rr2 e5, e6, p, vs2, n, j, rfl, res_int rr1 e3, h7, c7, q5 F2 _ _ (kk _ (h8.set j rep_int))⟩
        · exact q4.elim
      · exact q4.elim
    · exact q3.elim
  · exact q3.elim
theorem setFd_ins {f : Nat} {v d d' : D} (h : setFd W.fok f v d = some d') : ∃ c fs, d = .ins c fs ∧ W.fok c f = true ∧ fs.length < 900 ∧ d' = .ins c (putFd f v fs) := by
  unfold setFd at h
  split at h
  · rename_i c fs
    split at h
    · rename_i hk
      cases h
      rw [Bool.and_eq_true] at hk
      exact ⟨c, fs, rfl, hk.1, of_decide_eq_true hk.2, rfl⟩
    · cases h
  · cases h
theorem s_setFld {f : Nat} {fs : Str} (k : Fk X.K G W.fok W.eok) (hf : G.fld f = fs) (ho : PE X o (tVar a)) (he : PE X e (rdE G W Wx e')) (hs : swapsWith e (some (.Attribute o fs pos')) pos.line X.env = pure false := by rfl) :
    PS X (.Assign [.Attribute o fs pos'] e pos) (rdS G W Wx (.setFld a f e')) := by
  subst hf
  refine ps_imp (ps_fld ho he hs) fun D σ H ⟨F, ρ, ok, q⟩ => ?_
  refine to_then0 (k := fun r ρ1 => XR.opt .nx (modR ρ1 a (setFd W.fok f r.d))) ok q fun v F1 H1 ρ1 r g rr q1 => ?_
  obtain ⟨F2, g2, m, rep⟩ := freeze ok g rr
  obtain ⟨ρ3, e3, q3⟩ := opt_then (rdXR.back ok g2 q1)
  obtain ⟨d, d', p, hf, hp, o, kk⟩ := go_mod g2.ok e3
  obtain ⟨c, fs, rfl, h1, h2, rfl⟩ := setFd_ins hf
  obtain ⟨k1, k2, k3⟩ := k.ins c f h1
  obtain ⟨fp, dx, gs, h3, h4, h5, h6⟩ := o
  have ne : dx ≠ p := fun z => by subst z; rw [h3] at h4; cases h4
  refine ⟨.ref p, hp, p, _, dx, gs, rfl, h3, k1, k2, by rw [h6.len]; omega, q3 F2 _ σ (kk _ (fun _ z => nomatch z) ⟨fp, dx, _, upd_same, ?_, h5, RepF.put k3 rep h6⟩)⟩
  rw [upd_ne ne]; exact h4
theorem s_app {apos cpos : Pos} (ho : PE X o (tVar a)) (he : PE X e (rdE G W Wx e')) (hsw : swapsWith (.Call (.Attribute o "append" apos) [e] [] cpos) none pos.line X.env = pure false := by rfl)
    (hbase : attributeBase o "append" X.env (eval o X.env) = eval o X.env := by rfl)
    (hfew : ((backTo cpos (starEach [e] X.env)).all (fun x => !x.1) && (backToKw cpos (keywordEach [] X.env)).all (fun x => x.1.isSome) && decide ([e].length + ([] : List Keyword).length + (if ([] : List Keyword).isEmpty then 0 else 1) < 30)) = true := by rfl)
    (hline : (apos.endLine == cpos.line) = true := by rfl) (hs : starEach [e] X.env = (false, eval e X.env) :: starEach [] X.env := by rfl) (hpl : (backTo cpos (starEach [] X.env)).any (·.1) = false := by rfl) :
    PS X (.Expr (.Call (.Attribute o "append" apos) [e] [] cpos) pos) (rdS G W Wx (.app a e')) := by
  refine ps_imp (ps_expr (pe_bm PySem.F.plainAttrs_list PySem.F.slot_list_append PySem.F.type_list_append mt_append ho (pa_cons he pa_nil hs) hbase hfew hline hs hpl) hsw) fun D σ H ⟨F, ρ, ok, q⟩ => ?_
  obtain ⟨xs, p, vs, h0, h1, h2, q2⟩ := gdl_then ok q
  refine ⟨.ref p, h1, .inl ⟨rfl, vs, .of h2⟩, ?_⟩
  refine to_then0 (k := fun r ρ1 => XR.opt .nx (modR ρ1 a (appD r.d))) ok q2 fun v F1 H1 ρ1 r g rr q3 => ?_
  obtain ⟨F2, g2, m, rep⟩ := freeze ok g rr
  obtain ⟨ρ3, e3, q4⟩ := opt_then (rdXR.back ok g2 q3)
  obtain ⟨ys, zs, p2, ws, hf, hp, h3, h4, kk⟩ := go_modL g2.ok e3 (fun d d' h => by
    unfold appD at h
    split at h
    · split at h
      · cases h; exact ⟨_, _, rfl, rfl⟩
      · cases h
    · cases h)
  rw [h1] at hp
  cases hp
  replace hf : (if ltLen ys.length then some (Dp.D.lst (ys ++ [r.d])) else none) = some (.lst zs) := hf
  split at hf
  · rename_i hl
    cases hf
    exact ⟨p, ws, v, rfl, rfl, h3, by rw [h4.len]; exact of_decide_eq_true hl, q4 F2 _ σ (kk _ (h4.append (RepL.one rep)))⟩
  · cases hf
theorem s_ext {apos cpos : Pos} (ho : PE X o (tVar a)) (he : PE X e (rdE G W Wx e')) (hsw : swapsWith (.Call (.Attribute o "extend" apos) [e] [] cpos) none pos.line X.env = pure false := by rfl)
    (hbase : attributeBase o "extend" X.env (eval o X.env) = eval o X.env := by rfl)
    (hfew : ((backTo cpos (starEach [e] X.env)).all (fun x => !x.1) && (backToKw cpos (keywordEach [] X.env)).all (fun x => x.1.isSome) && decide ([e].length + ([] : List Keyword).length + (if ([] : List Keyword).isEmpty then 0 else 1) < 30)) = true := by rfl)
    (hline : (apos.endLine == cpos.line) = true := by rfl) (hs : starEach [e] X.env = (false, eval e X.env) :: starEach [] X.env := by rfl) (hpl : (backTo cpos (starEach [] X.env)).any (·.1) = false := by rfl) :
    PS X (.Expr (.Call (.Attribute o "extend" apos) [e] [] cpos) pos) (rdS G W Wx (.ext a e')) := by
  refine ps_imp (ps_expr (pe_bm PySem.F.plainAttrs_list PySem.F.slot_list_extend PySem.F.type_list_extend mt_extend ho (pa_cons he pa_nil hs) hbase hfew hline hs hpl) hsw) fun D σ H ⟨F, ρ, ok, q⟩ => ?_
  obtain ⟨xs, p, vs, h0, h1, h2, q2⟩ := gdl_then ok q
  refine ⟨.ref p, h1, .inl ⟨rfl, vs, .of h2⟩, ?_⟩
  refine to_then0 (k := fun r ρ1 => XR.opt .nx (modR ρ1 a (extD r.d))) ok q2 fun v F1 H1 ρ1 r g rr q3 => ?_
  obtain ⟨F2, g2, m, rep⟩ := freeze ok g rr
  obtain ⟨ρ3, e3, q4⟩ := opt_then (rdXR.back ok g2 q3)
  obtain ⟨ys, zs, p2, ws, hf, hp, h3, h4, kk⟩ := go_modL g2.ok e3 (fun d d' h => by
    unfold extD at h
    split at h
    · split at h
      · split at h
        · cases h; exact ⟨_, _, rfl, rfl⟩
        · cases h
      · cases h
    · cases h)
  rw [h1] at hp
  cases hp
  unfold extD at hf
  dsimp only at hf
  split at hf
  · rename_i us er
    rw [er] at rep
    obtain ⟨b, ts, rfl, h5, h6⟩ := rdv_lst g2.ok.le (.inl rep)
    split at hf
    · rename_i hl
      cases hf
      have hl' : ys.length + us.length ≤ sizeLine := of_decide_eq_true hl
      exact ⟨p, b, ws, ts, rfl, rfl, h3, h5, by rw [h4.len, h6.len]; exact hl', q4 F2 _ σ (kk _ (h4.append h6))⟩
    · cases hf
  · cases hf
theorem s_pop {apos cpos : Pos} (ho : PE X o (tVar a)) (hsw : swapsWith (.Call (.Attribute o "pop" apos) [] [] cpos) none pos.line X.env = pure false := by rfl)
    (hbase : attributeBase o "pop" X.env (eval o X.env) = eval o X.env := by rfl) (hline : (apos.endLine == cpos.line) = true := by rfl) :
    PS X (.Expr (.Call (.Attribute o "pop" apos) [] [] cpos) pos) (rdS G W Wx (.pop a)) := by
  refine ps_imp (ps_expr (pe_bm0 PySem.F.plainAttrs_list PySem.F.slot_list_pop PySem.F.type_list_pop mt_pop ho hbase hline) hsw) fun D σ H ⟨F, ρ, ok, q⟩ => ?_
  obtain ⟨ρ3, e3, q4⟩ := opt_then (k := XR.nx) q
  obtain ⟨ys, zs, p, ws, hf, hp, h3, h4, kk⟩ := go_modL ok e3 (fun d d' h => by
    unfold popD at h
    split at h
    · split at h
      · cases h
      · cases h; exact ⟨_, _, rfl, rfl⟩
    · cases h)
  replace hf : (if ys.length = 0 then none else some (Dp.D.lst ys.dropLast)) = some (.lst zs) := hf
  split at hf
  · cases hf
  · rename_i hl
    cases hf
    have hw : ws.length - 1 < ws.length := by rw [h4.len]; omega
    exact ⟨.ref p, hp, .inl ⟨rfl, ws, .of h3⟩, p, ws, ws[ws.length - 1], rfl, rfl, h3, by rw [List.getElem?_eq_getElem hw], q4 F _ σ (kk _ h4.dropLast)⟩

/-! ### if, while -/
theorem brX_then {f : Rho → R (Bool × Rho)} {A B : Rho → XR} {F H : Hp} {σ : St} {ρ : Rho} {D : Ends} (ok : Ok G F H σ ρ) (q : rdXR G Wx (brX (f ρ) A B) F H σ ρ D) :
    rdTF G Wx f σ H fun b H1 => if b = true then rdSF G Wx A D σ H1 else rdSF G Wx B D σ H1 := by
  refine ⟨F, ρ, ok, ?_⟩
  cases r : f ρ with
  | bad => rw [r] at q; exact q
  | exc c d ρ' => rw [r] at q; exact q σ
  | ok p =>
    obtain ⟨b, ρ1⟩ := p
    rw [r] at q
    intro F1 H1 g
    cases b with
    | true => rw [if_pos rfl]; exact ⟨F1, ρ1, g.ok, rdXR.back ok g q⟩
    | false => rw [if_neg Bool.false_ne_true]; exact ⟨F1, ρ1, g.ok, rdXR.back ok g q⟩
theorem s_if {u v : List Stmt} {u' v' : List S} (hc : PT X c (rdT G W Wx c')) (hu : PSs X u (rdSs G W Wx u')) (hv : PSs X v (rdSs G W Wx v')) : PS X (.If c u v pos) (rdS G W Wx (.ite c' u' v')) :=
  ps_imp (ps_if hc hu hv) fun D σ H ⟨F, ρ, ok, q⟩ => brX_then ok q
theorem s_while {body : List Stmt} {b' : List S} (hp : PassesOwn (model X.prog X.w) X.A X.env X.xe) (hc : PT X c (rdT G W Wx c')) (hb : PSs X body (rdSs G W Wx b')) : PS X (.While c body [] pos) (rdS G W Wx (.whl c' b')) := by
  refine ps_imp (ps_while hp hc hb) fun D σ H ⟨F, ρ, ok, q⟩ => ?_
  have q0 : rdXR G Wx (loopW (tst W c') (exs W b') ρ) F H σ ρ D := q
  unfold loopW at q0
  split at q0
  · rename_i h
    obtain ⟨k, hk⟩ := h.choose_spec
    generalize h.choose = res at hk q0
    refine ⟨fun m σ1 H1 => ∃ F1 ρ1, Go G F H σ ρ F1 H1 σ1 ρ1 ∧ iterW (tst W c') (exs W b') m ρ1 = some res, ⟨k, F, ρ, Go.refl ok, hk⟩, ?_⟩
    rintro m σ1 H1 ⟨F1, ρ1, g1, it⟩
    cases m with
    | zero => cases it
    | succ m =>
      unfold iterW at it
      refine ⟨F1, ρ1, g1.ok, ?_⟩
      cases r : tst W c' ρ1 with
      | bad => rw [r] at it; cases it; exact q0.elim
      | exc c d ρ2 => rw [r] at it; cases it; exact excK.back ok g1 (q0 σ1)
      | ok p =>
        obtain ⟨b, ρ2⟩ := p
        rw [r] at it
        intro F2 H2 g2
        have g12 := g1.trans ok g2
        cases b with
        | false =>
          cases it
          rw [if_neg Bool.false_ne_true]
          exact q0 F2 H2 σ1 g12
        | true =>
          rw [if_pos rfl]
          refine ⟨fun σ' H' => ∃ F3 ρ3, Go G F H σ ρ F3 H' σ' ρ3 ∧ iterW (tst W c') (exs W b') m ρ3 = some res, fun σ' H' n => ⟨m, Nat.lt_succ_self m, n⟩, F2, ρ2, g2.ok, ?_⟩
          dsimp only at it
          cases r3 : exs W b' ρ2 with
          | nx ρ3 => rw [r3] at it; exact fun F3 H3 σ3 g3 => ⟨F3, ρ3, g12.trans ok g3, it⟩
          | ct ρ3 => rw [r3] at it; exact fun F3 H3 σ3 g3 => ⟨F3, ρ3, g12.trans ok g3, it⟩
          | bk ρ3 => rw [r3] at it; cases it; exact fun F3 H3 σ3 g3 => q0 F3 H3 σ3 (g12.trans ok g3)
          | rt r ρ3 => rw [r3] at it; cases it; exact fun v F3 H3 σ3 g3 rr => q0 v F3 H3 σ3 (g12.trans ok g3) (rr.back g12)
          | exc c d ρ3 => rw [r3] at it; cases it; exact fun σ' => excK.back ok g12 (q0 σ')
          | bad => rw [r3] at it; cases it; exact q0.elim
  · exact q0.elim

/-! ### for -/
/-- an iterator that gives these, one after the other -/
def ItOk (G : Gx) (J : L2.It) (xs : List D) (F : Hp) : Prop :=
  ∀ F' H' σ ρ, Same F F' → Ok G F' H' σ ρ → ∀ i, (∀ d, xs[i]? = some d → J.go i H' ∧ ∀ x H'', J.yld i H' x H'' → ∃ F'', Go G F' H' σ ρ F'' H'' σ ρ ∧ Rep G F'' d x) ∧ (i = xs.length → J.stop i H')
def rdIF (G : Gx) (Wx : WX) (f : Rho → R (List D × Rho)) : TI := fun σ H R => ∃ F ρ, Ok G F H σ ρ ∧ match f ρ with
  | .ok (xs, ρ1) => ∀ J F1 H1, Go G F H σ ρ F1 H1 σ ρ1 → ItOk G J xs F1 → R J H1
  | .exc c d ρ' => excK G Wx F H σ ρ c d ρ' σ
  | .bad => False
theorem pi_imp {tg e : Expr} {t t' : TI} (h : PI X tg e t) (i : ∀ σ H Q, t' σ H Q → t σ H Q) : PI X tg e t' := ⟨fun p s σ H R I q => h.run p s σ H R I (i σ H R q)⟩
theorem for_go {t : T} {b : Rho → XR} {x : D} {xs : List D} {ρ : Rho} : forGo t b (x :: xs) ρ = (match bindT t x ρ with
    | none => .bad
    | some ρ1 => match b ρ1 with
      | .nx ρ2 => forGo t b xs ρ2
      | .ct ρ2 => forGo t b xs ρ2
      | .bk ρ2 => .nx ρ2
      | o => o) := rfl
theorem s_for {t : T} {it' : Dp.It} {tg iter : Expr} {body : List Stmt} {b' : List S} (hp : PassesOwn (model X.prog X.w) X.A X.env X.xe) (hc : X.calm = true) (hi : PI X tg iter (rdIF G Wx (evI W it'))) (hg : PG X tg (rdG G t)) (hb : PSs X body (rdSs G W Wx b'))
    (hs : ∀ x, foldedSetIterable iter X.env x = pure x := by intro _; rfl) : PS X (.For tg iter body [] pos) (rdS G W Wx (.for_ t it' b')) := by
  refine ps_imp (ps_for hp hc hi hg hb hs) fun D σ H ⟨F, ρ, ok, q⟩ => ⟨F, ρ, ok, ?_⟩
  have q0 : rdXR G Wx (match evI W it' ρ with
    | .ok (xs, ρ1) => forGo t (exs W b') xs ρ1
    | .exc c d ρ1 => .exc c d ρ1
    | .bad => .bad) F H σ ρ D := q
  clear q
  cases r : evI W it' ρ with
  | bad => rw [r] at q0; exact q0
  | exc c d ρ' => rw [r] at q0; exact q0 σ
  | ok p =>
    obtain ⟨xs, ρ1⟩ := p
    rw [r] at q0
    intro J F1 H1 g1 hJ
    have q1 : rdXR G Wx (forGo t (exs W b') xs ρ1) F1 H1 σ ρ1 D := rdXR.back ok g1 q0
    refine ⟨fun i m σ' H' => m = xs.length - i ∧ i ≤ xs.length ∧ ∃ F2 ρ2, Same F1 F2 ∧ Ok G F2 H' σ' ρ2 ∧ rdXR G Wx (forGo t (exs W b') (xs.drop i) ρ2) F2 H' σ' ρ2 D, ⟨xs.length, rfl, Nat.zero_le _, F1, ρ1, fun _ _ h => h, g1.ok, q1⟩, ?_⟩
    rintro i m σ2 H2 ⟨rfl, il, F2, ρ2, m2, ok2, q2⟩
    obtain ⟨hd, hn⟩ := hJ F2 H2 σ2 ρ2 m2 ok2 i
    cases e : xs[i]? with
    | none =>
      have hl : xs.length ≤ i := List.getElem?_eq_none_iff.mp e
      rw [List.drop_eq_nil_of_le hl] at q2
      exact .inl ⟨hn (Nat.le_antisymm il hl), q2 F2 H2 σ2 (Go.refl ok2)⟩
    | some d =>
      have hl : i < xs.length := (List.getElem?_eq_some_iff.mp e).1
      have ed : xs.drop i = d :: xs.drop (i + 1) := by rw [List.drop_eq_getElem_cons hl, (List.getElem?_eq_some_iff.mp e).2]
      rw [ed, for_go] at q2
      refine .inr ⟨(hd d e).1, fun σ' H' => ∃ F3 ρ3, Same F1 F3 ∧ Ok G F3 H' σ' ρ3 ∧ rdXR G Wx (forGo t (exs W b') (xs.drop (i + 1)) ρ3) F3 H' σ' ρ3 D, fun σ' H' n => ⟨_, by omega, rfl, hl, n⟩, fun x H'' y => ?_⟩
      obtain ⟨F3, g3, rep⟩ := (hd d e).2 x H'' y
      refine ⟨F3, ρ2, d, g3.ok, rep, ?_⟩
      cases e4 : bindT t d ρ2 with
      | none => rw [e4] at q2; exact q2.elim
      | some ρ4 =>
        rw [e4] at q2
        intro σ4 g4 _
        have g34 := g3.trans ok2 g4
        refine ⟨F3, ρ4, g4.ok, ?_⟩
        dsimp only at q2
        cases r5 : exs W b' ρ4 with
        | nx ρ5 =>
          rw [r5] at q2
          intro F5 H5 σ5 g5
          have g := g34.trans ok2 g5
          exact ⟨F5, ρ5, fun a u h => g.mono a u (m2 a u h), g.ok, rdXR.back ok2 g q2⟩
        | ct ρ5 =>
          rw [r5] at q2
          intro F5 H5 σ5 g5
          have g := g34.trans ok2 g5
          exact ⟨F5, ρ5, fun a u h => g.mono a u (m2 a u h), g.ok, rdXR.back ok2 g q2⟩
        | bk ρ5 => rw [r5] at q2; exact fun F5 H5 σ5 g5 => q2 F5 H5 σ5 (g34.trans ok2 g5)
        | rt r ρ5 => rw [r5] at q2; exact fun v F5 H5 σ5 g5 rr => q2 v F5 H5 σ5 (g34.trans ok2 g5) (rr.back g34)
        | exc c d ρ5 => rw [r5] at q2; exact fun σ' => excK.back ok2 g34 (q2 σ')
        | bad => rw [r5] at q2; exact q2
end
end Dp
/-! What loops walk: lists, tuples, ranges, enumerate, zip. -/
namespace Dp
open PySem PySem.Spec PyProof.Rows L2

/-! ### a list or a tuple -/
def SqK (k : Bool) (K : PySem.W.Frag) (H : Hp) (a : Addr) (xs : List V) : Prop := match k with | true => SqL K H a xs | false => SqT K H a xs
def ItK (k : Bool) (h : Heap) (it a : Addr) (i : Nat) : Prop := match k with | true => h.IsListIter it a i | false => h.IsTupleIter it a i
def SeqK (k : Bool) (h : Heap) (a : Addr) (its : Array Value) : Prop := match k with | true => h.IsList a its | false => h.IsTuple a its
def itObj (k : Bool) (a : Addr) : Obj := { cls := .type (if k then "list_iterator" else "tuple_iterator"), data := .fields #[.ref a, .int 0 0] }
section
variable {k : Bool}
theorem sqK_seq {X : Cx} {pins : List (Addr × Obj)} {σ : St} {H : Hp} {s : Shared} {a : Addr} {xs : List V} (I : Inv X pins σ H s) (h : SqK k X.K H a xs) : ∃ its : List Value, Vals xs its ∧ SeqK k s.heap a its.toArray := by
  cases k with
  | true => obtain ⟨its, r, p, _⟩ := I.list h; exact ⟨its, r, p.isList⟩
  | false => obtain ⟨its, r, p, _⟩ := I.tuple h; exact ⟨its, r, p⟩
theorem sqK_inj {X : Cx} {pins : List (Addr × Obj)} {σ : St} {H : Hp} {s : Shared} {a : Addr} {xs ys : List V} (I : Inv X pins σ H s) (h : SqK k X.K H a xs) (g : SqK k X.K H a ys) : xs = ys := by
  cases k with
  | true => exact I.list_inj h g
  | false => exact I.tuple_inj h g
theorem itK_obj {h : Heap} {it a : Addr} {i : Nat} (st : ItK k h it a i) : ∃ o vs, h.get? it = some o ∧ o.data = .fields vs := by
  cases k with
  | true => obtain ⟨o, e, c, d⟩ := st; exact ⟨o, _, e, d⟩
  | false => obtain ⟨o, e, c, d⟩ := st; exact ⟨o, _, e, d⟩
theorem itK_at {h h' : Heap} {it a : Addr} {i : Nat} (st : ItK k h it a i) (q : ∀ o, h.get? it = some o → h'.get? it = some o) : ItK k h' it a i := by
  cases k with
  | true => exact Heap.IsListIter.at st q
  | false => exact Heap.IsTupleIter.at st q
theorem itK_new {h : Heap} {it a : Addr} (e : h.get? it = some (itObj k a)) : ItK k h it a 0 := by
  cases k with
  | true => exact ⟨_, e, rfl, rfl⟩
  | false => exact ⟨_, e, rfl, rfl⟩
theorem seqK_lt {h : Heap} {a : Addr} {its : Array Value} (s : SeqK k h a its) : ∃ o vs n, h.get? a = some o ∧ o.data = .seq vs n := by
  cases k with
  | true => obtain ⟨o, e, _, n, d⟩ := s; exact ⟨o, _, n, e, d⟩
  | false => obtain ⟨o, e, _, n, d⟩ := s; exact ⟨o, _, n, e, d⟩
theorem itK_ne {h : Heap} {it a : Addr} {i : Nat} {its : Array Value} (st : ItK k h it a i) (s : SeqK k h a its) : a ≠ it := fun z => by
  obtain ⟨o, vs, e, d⟩ := itK_obj st
  obtain ⟨o', vs', n, e', d'⟩ := seqK_lt s
  rw [z, e] at e'
  cases e'
  rw [d] at d'
  cases d'
theorem drawsK {prog : Program} {w : World} {A : Around} (hh : A.handled = none) {it a : Addr} {its : Array Value} (hne : a ≠ it) : Draws prog w A it [it, a] its.size (fun i v => its[i]? = some v) (fun i h => ItK k h it a i ∧ SeqK k h a its) := by
  cases k with
  | true => exact Draws.list hh it a hne its
  | false => exact Draws.tuple hh it a hne its
theorem beginsK (a : Addr) (its : Array Value) : Begins (.ref a) (itObj k a) fun h => SeqK k h a its := by
  cases k with
  | true => exact begins_list a its
  | false => exact begins_tuple a its
end

/-! ### enumerate -/
set_option maxHeartbeats 1000000 in
theorem enum_new1 {v : Value} {o : Obj} {H : Heap → Prop} (B : Begins v o H) :
    Meets (Builtin.«enumerate.__new__» ⟨[.type "enumerate", v], []⟩) (fun _ R s => H s.heap ∧
      R (.ok (.ret (.ref (s.heap.push o).objs.size))) { s with heap := (s.heap.push o).push { cls := .type "enumerate", data := .fields #[.none, .bool false, .ref s.heap.objs.size, rawInt 0, .none, .none] } }) :=
  .of_wp fun prog w A R s h => by
    obtain ⟨hp, g, dr, tk, os⟩ := s
    obtain ⟨h1, h⟩ := h
    have below := sub_enumerate
    have step : ∀ {A' : Around} {E : Value → Shared → Prop} {Q : Value → Shared → Prop}, Q (.ref hp.objs.size) ⟨hp.push o, g, dr, tk, os⟩ → wpAny (model prog w) A' (pyIter v) Q E ⟨hp, g, dr, tk, os⟩ := fun q => B.iter prog w _ _ ⟨hp, g, dr, tk, os⟩ _ h1 q
    wp_walk using step
    refine wpAny_stack_any fun st => wpAny_pure ?_
    split
    · rename_i c _ _ _ _ _
      cases (c == Value.type "enumerate") <;> (wp_walk using step; exact ⟨_, rfl, h⟩)
    · wp_walk using step; exact ⟨_, rfl, h⟩
theorem enum_begins1 {prog : Program} {w : World} {A : Around} {E : Value → Shared → Prop} {s : Shared} {v : Value} {o : Obj} {H : Heap → Prop} {Q : Value → Shared → Prop} (B : Begins v o H) (h1 : H s.heap)
    (h : ∀ h', IsEnum h' (s.heap.objs.size + 1) s.heap.objs.size 0 .none → h'.get? s.heap.objs.size = some o → (∀ b o, s.heap.get? b = some o → h'.get? b = some o) → Q (.ref (s.heap.objs.size + 1)) { s with heap := h' }) :
    wpAny (model prog w) A (call (.type "enumerate") [v]) Q E s := by
  refine callType_new F.called_enumerate (by decide) (F.typeCall_enumerate_1 _) (F.newCall_enumerate_1 _) (fun obj => F.args_object_init_2 obj _) F.entry_enumerate_new (enum_new1 B) ⟨h1, ?_⟩
  have sz : (s.heap.push o).objs.size = s.heap.objs.size + 1 := Heap.size_push ..
  refine (show _ ∧ _ from ?_)
  rw [sz]
  have he : IsEnum ((s.heap.push o).push { cls := .type "enumerate", data := .fields #[.none, .bool false, .ref s.heap.objs.size, rawInt 0, .none, .none] }) (s.heap.objs.size + 1) s.heap.objs.size 0 .none := by
    have q := Heap.get?_push_size (s.heap.push o) (o := { cls := .type "enumerate", data := .fields #[.none, .bool false, .ref s.heap.objs.size, rawInt 0, .none, .none] }) rfl
    rw [sz] at q; exact q
  exact ⟨⟨_, he, rfl⟩, h _ he (Heap.get?_push_of_some _ (Heap.get?_push_size _ B.free)) fun b o x => Heap.get?_push_of_some _ (Heap.get?_push_of_some _ x)⟩
/-- each item in a new pair with its place -/
def JE (k : Bool) (K : PySem.W.Frag) (a : Addr) : L2.It :=
  ⟨fun i H => ∃ (xs : List V) (x : V), SqK k K H a xs ∧ xs[i]? = some x, fun i H v H' => ∃ T x, v = .ref T ∧ H T = none ∧ H' = upd H T (.tup [.int (i : Nat), x]) ∧ ∀ xs, SqK k K H a xs → xs[i]? = some x, fun i H => ∃ xs : List V, SqK k K H a xs ∧ xs.length = i⟩
theorem turn_enumK {k : Bool} {P : Program} {w : World} {K : PySem.W.Frag} {elts : List Expr} {kk : Nat} {tpos : Pos} (a e it : Addr) (hne : e ≠ it) :
    Turn P w K (.Tuple elts kk tpos) (JE k K a) [e, it] e (fun i h => (∃ old, IsEnum h e it ((i : Nat) : Int) old) ∧ ItK k h it a i) where
  mem := by simp
  obj := fun i h st b hb => by
    obtain ⟨⟨old, he⟩, hi⟩ := st
    obtain ⟨o, vs, e1, d⟩ := itK_obj hi
    rcases (show b = e ∨ b = it by simpa using hb) with rfl | rfl
    · exact ⟨_, he, fun v q => nomatch q⟩
    · exact ⟨o, e1, fun v q => by rw [d] at q; cases q⟩
  keep := fun i h h' st q => ⟨let ⟨old, he⟩ := st.1; ⟨old, q e (by simp) _ he⟩, itK_at st.2 fun o z => q it (by simp) o z⟩
  item := by
    intro X hP hw hK hc i pins s σ H E I hf st hg
    subst hP hw hK
    obtain ⟨⟨old, he⟩, hit⟩ := st
    obtain ⟨xs, x, hq, hx⟩ := hg
    obtain ⟨its, rv, p⟩ := sqK_seq I hq
    obtain ⟨u, hu, ru⟩ := rv.get hx
    have hi : i < its.toArray.size := by simpa using (List.getElem?_eq_some_iff.mp hu).1
    have hel : e < s.heap.objs.size := Heap.lt_size he
    have hil : it < s.heap.objs.size := by obtain ⟨_, _, q, _⟩ := itK_obj hit; exact Heap.lt_size q
    have hat := itK_ne hit p
    have hef : e ∉ [it, a] := fun z => by
      rcases (show e = it ∨ e = a by simpa using z) with z | z
      · exact hne z
      · obtain ⟨o', vs', n, e', d'⟩ := seqK_lt p
        rw [← z, he] at e'
        cases e'
        cases d'
    have W := GoesN.enumFrom (elts := elts) (x1 := kk) (pos := tpos) 0 (drawsK (k := k) (prog := X.prog) (w := X.w) (A := X.A.in1) (its := its.toArray) (show X.A.in1.handled = none from I.ok.hd hc) hat) e hne hef (by simp)
    refine W.goes i s (fun v s2 => ∃ x H', Inv X pins σ H' s2 ∧ RelV x v ∧ (JE k X.K a).yld i H x H' ∧ ((∃ old, IsEnum s2.heap e it (((i + 1 : Nat) : Nat) : Int) old) ∧ ItK k s2.heap it a (i + 1)) ∧ ∀ b ∈ [e, it], H' b = none) E hi ⟨⟨old, by rw [Int.zero_add]; exact he⟩, hit, p⟩ ?_
    rintro v h' tk ⟨T, t, y, rfl, hT, hy, hTup⟩ ⟨⟨old', he'⟩, hit', _⟩ hk _
    have eu : y = u := by
      rw [List.getElem?_toArray, hu] at hy; exact (Option.some.inj hy).symm
    subst eu
    rw [Int.zero_add] at hTup he'
    obtain ⟨oT, eT, cT, n, dT⟩ := hTup
    have new : ObjOk X.prog X.w (upd H T (.tup [.int (i : Nat), x])) h' T (.tup [.int (i : Nat), x]) := ⟨by show 2 ≤ sizeLine; decide, [.int i t, y], .cons ⟨_, rfl⟩ (.cons ru .nil), ⟨oT, eT, cT, n, dT⟩⟩
    have I1 := I.turnedNew (t' := tk) (ch := [e, it]) (fun b o hb q => hk b o hb q) hf hT new
    refine ⟨.ref T, _, I1, rfl, ⟨T, x, rfl, I.hok.fresh hT, rfl, fun ys hy => by rw [sqK_inj I hy hq]; exact hx⟩, ⟨⟨old', he'⟩, hit'⟩, fun b hb => ?_⟩
    have hb' : b < s.heap.objs.size := by
      rcases (show b = e ∨ b = it by simpa using hb) with z | z
      · rw [z]; exact hel
      · rw [z]; exact hil
    rw [upd_ne (Nat.ne_of_lt (Nat.lt_of_lt_of_le hb' hT))]
    exact (hf b hb).1
  done := by
    intro X hP hw hK hc i pins s σ H E I hf st hg
    subst hP hw hK
    obtain ⟨⟨old, he⟩, hit⟩ := st
    obtain ⟨xs, hq, rfl⟩ := hg
    obtain ⟨its, rv, p⟩ := sqK_seq I hq
    have hl : xs.length = its.toArray.size := by rw [List.size_toArray]; exact rv.length
    rw [hl] at he hit
    have D := drawsK (k := k) (prog := X.prog) (w := X.w) (A := X.A.in1) (its := its.toArray) (show X.A.in1.handled = none from I.ok.hd hc) (itK_ne hit p)
    refine wpAny_pyNext_enum_endD D he ⟨hit, p⟩ fun h' eb => ⟨rfl, I.turnedL (t' := s.toks) (ch := [e, it]) (fun b o hb q => eb b o (fun z => hb (by simp [z])) q) hf⟩
  self := fun A i s Q E st h => let ⟨⟨_, he⟩, _⟩ := st; wpAny_pyIter_enum he h
theorem pi_enumK {k : Bool} {X : Cx} {tg : Expr} {pins : List (Addr × Obj)} {σ : St} {H : Hp} {s : Shared} {R : L2.It → Hp → Prop} {a : Addr} {xs : List V} {elts : List Expr} {kk : Nat} {tpos : Pos} (htg : tg = .Tuple elts kk tpos) (I : Inv X pins σ H s) (hq : SqK k X.K H a xs) (q : R (JE k X.K a) H) :
    wpAny (model X.prog X.w) X.A (call (.type "enumerate") [.ref a]) (fun v s1 => wpAny (model X.prog X.w) X.A (pyIter v) (PIE X pins σ tg R) X.xe s1) X.xe s := by
  subst htg
  obtain ⟨its, rv, p⟩ := sqK_seq I hq
  refine enum_begins1 (beginsK a its.toArray) p fun h' he hit hk => wpAny_pyIter_enum he ?_
  have I2 : Inv X pins σ H { s with heap := h' } := I.kept (t' := s.toks) hk
  refine ⟨s.heap.objs.size + 1, [s.heap.objs.size + 1, s.heap.objs.size], _, _, H, rfl, I2, turn_enumK a (s.heap.objs.size + 1) s.heap.objs.size (Nat.succ_ne_self _), ⟨⟨.none, he⟩, itK_new hit⟩, fun b hb => ?_, q⟩
  have hle : s.heap.objs.size ≤ b := by
    rcases (show b = s.heap.objs.size + 1 ∨ b = s.heap.objs.size by simpa using hb) with z | z
    · rw [z]; exact Nat.le_add_right _ _
    · rw [z]; exact Nat.le_refl _
  exact I.fpOk hle (I.hok.fresh hle)

/-! ### zip -/
def JZ (k1 k2 : Bool) (K : PySem.W.Frag) (a b : Addr) : L2.It :=
  ⟨fun i H => ∃ (xs ys : List V) (x y : V), SqK k1 K H a xs ∧ SqK k2 K H b ys ∧ xs[i]? = some x ∧ ys[i]? = some y,
    fun i H v H' => ∃ T x y, v = .ref T ∧ H T = none ∧ H' = upd H T (.tup [x, y]) ∧ (∀ xs, SqK k1 K H a xs → xs[i]? = some x) ∧ ∀ ys, SqK k2 K H b ys → ys[i]? = some y,
    fun i H => ∃ xs ys : List V, SqK k1 K H a xs ∧ SqK k2 K H b ys ∧ min xs.length ys.length = i⟩
theorem turn_zipK {k1 k2 : Bool} {P : Program} {w : World} {K : PySem.W.Frag} {elts : List Expr} {kk : Nat} {tpos : Pos} {a b z TI TO i1 i2 : Addr} (S : ZipSep2 z TI TO i1 i2 [i1, a] [i2, b]) :
    Turn P w K (.Tuple elts kk tpos) (JZ k1 k2 K a b) [z, TI, TO, i1, i2] z (fun i h => IsZip h z TI TO .none ∧ IsTupOf2 h TI (.ref i1) (.ref i2) ∧ (∃ x y, IsTupOf2 h TO x y) ∧ ItK k1 h i1 a i ∧ ItK k2 h i2 b i) where
  mem := by simp
  obj := fun i h st c hc => by
    obtain ⟨hz, hTI, ⟨x, y, hTO⟩, h1, h2⟩ := st
    obtain ⟨o1, v1, e1, d1⟩ := itK_obj h1
    obtain ⟨o2, v2, e2, d2⟩ := itK_obj h2
    rcases (show c = z ∨ c = TI ∨ c = TO ∨ c = i1 ∨ c = i2 by simpa using hc) with q | q | q | q | q
    · rw [q]; exact ⟨_, hz, fun v q => nomatch q⟩
    · rw [q]; exact ⟨_, hTI, fun v q => nomatch q⟩
    · rw [q]; exact ⟨_, hTO, fun v q => nomatch q⟩
    · exact ⟨o1, q ▸ e1, fun v q => by rw [d1] at q; cases q⟩
    · exact ⟨o2, q ▸ e2, fun v q => by rw [d2] at q; cases q⟩
  keep := fun i h h' st q => ⟨q z (by simp) _ st.1, q TI (by simp) _ st.2.1, let ⟨x, y, hTO⟩ := st.2.2.1; ⟨x, y, q TO (by simp) _ hTO⟩, itK_at st.2.2.2.1 fun o e => q i1 (by simp) o e, itK_at st.2.2.2.2 fun o e => q i2 (by simp) o e⟩
  item := by
    intro X hP hw hK hc i pins s σ H E I hf st hg
    subst hP hw hK
    obtain ⟨hz, hTI, hTO, h1, h2⟩ := st
    obtain ⟨xs, ys, x, y, hqx, hqy, hx, hy⟩ := hg
    obtain ⟨its, rv, p⟩ := sqK_seq I hqx
    obtain ⟨its2, rv2, p2⟩ := sqK_seq I hqy
    obtain ⟨u, hu, ru⟩ := rv.get hx
    obtain ⟨u2, hu2, ru2⟩ := rv2.get hy
    have l1 := (List.getElem?_eq_some_iff.mp hu).1
    have l2 := (List.getElem?_eq_some_iff.mp hu2).1
    have hh : X.A.in1.handled = none := I.ok.hd hc
    have W := GoesN.zip2 (elts := elts) (x1 := kk) (pos := tpos) S (drawsK (k := k1) (prog := X.prog) (w := X.w) (A := X.A.in1) (its := its.toArray) hh (itK_ne h1 p)) (drawsK (k := k2) (prog := X.prog) (w := X.w) (A := X.A.in1) (its := its2.toArray) hh (itK_ne h2 p2))
    refine W.goes i s (fun v s2 => ∃ x H', Inv X pins σ H' s2 ∧ RelV x v ∧ (JZ k1 k2 X.K a b).yld i H x H' ∧ (IsZip s2.heap z TI TO .none ∧ IsTupOf2 s2.heap TI (.ref i1) (.ref i2) ∧ (∃ x y, IsTupOf2 s2.heap TO x y) ∧ ItK k1 s2.heap i1 a (i + 1) ∧ ItK k2 s2.heap i2 b (i + 1)) ∧ ∀ c ∈ [z, TI, TO, i1, i2], H' c = none) E
      (Nat.lt_min.mpr ⟨by simpa using l1, by simpa using l2⟩) ⟨hz, hTI, hTO, ⟨h1, p⟩, h2, p2⟩ ?_
    rintro v h' tk ⟨T, w1, w2, rfl, hT, hy1, hy2, hTup⟩ ⟨hz', hTI', hTO', ⟨h1', _⟩, h2', _⟩ hk _
    have eu : w1 = u := by rw [List.getElem?_toArray, hu] at hy1; exact (Option.some.inj hy1).symm
    have eu2 : w2 = u2 := by rw [List.getElem?_toArray, hu2] at hy2; exact (Option.some.inj hy2).symm
    subst eu eu2
    obtain ⟨oT, eT, cT, n, dT⟩ := hTup
    have new : ObjOk X.prog X.w (upd H T (.tup [x, y])) h' T (.tup [x, y]) := ⟨by show 2 ≤ sizeLine; decide, [w1, w2], .cons ru (.cons ru2 .nil), ⟨oT, eT, cT, n, dT⟩⟩
    have I1 := I.turnedNew (t' := tk) (ch := [z, TI, TO, i1, i2]) (fun c o hb q => hk c o (fun m => hb (by
      rcases (show c = z ∨ c = TO ∨ c = i1 ∨ c = i2 by simpa using m) with r | r | r | r <;> simp [r])) q) hf hT new
    refine ⟨.ref T, _, I1, rfl, ⟨T, x, y, rfl, I.hok.fresh hT, rfl, fun l hl => by rw [sqK_inj I hl hqx]; exact hx, fun l hl => by rw [sqK_inj I hl hqy]; exact hy⟩, ⟨hz', hTI', hTO', h1', h2'⟩, fun c hcm => ?_⟩
    have hlt : c < s.heap.objs.size := by
      obtain ⟨x0, y0, hTO⟩ := hTO
      obtain ⟨o1, v1, e1, d1⟩ := itK_obj h1
      obtain ⟨o2, v2, e2, d2⟩ := itK_obj h2
      rcases (show c = z ∨ c = TI ∨ c = TO ∨ c = i1 ∨ c = i2 by simpa using hcm) with q | q | q | q | q
      · rw [q]; exact Heap.lt_size hz
      · rw [q]; exact Heap.lt_size hTI
      · rw [q]; exact Heap.lt_size hTO
      · rw [q]; exact Heap.lt_size e1
      · rw [q]; exact Heap.lt_size e2
    rw [upd_ne (Nat.ne_of_lt (Nat.lt_of_lt_of_le hlt hT))]
    exact (hf c hcm).1
  done := by
    intro X hP hw hK hc i pins s σ H E I hf st hg
    subst hP hw hK
    obtain ⟨hz, hTI, hTO, h1, h2⟩ := st
    obtain ⟨xs, ys, hqx, hqy, hn⟩ := hg
    obtain ⟨its, rv, p⟩ := sqK_seq I hqx
    obtain ⟨its2, rv2, p2⟩ := sqK_seq I hqy
    have hh : X.A.in1.handled = none := I.ok.hd hc
    have W := GoesN.zip2 (elts := elts) (x1 := kk) (pos := tpos) S (drawsK (k := k1) (prog := X.prog) (w := X.w) (A := X.A.in1) (its := its.toArray) hh (itK_ne h1 p)) (drawsK (k := k2) (prog := X.prog) (w := X.w) (A := X.A.in1) (its := its2.toArray) hh (itK_ne h2 p2))
    have hn' : min its.toArray.size its2.toArray.size = i := by rw [List.size_toArray, List.size_toArray, ← rv.length, ← rv2.length]; exact hn
    refine W.stops s (fun s1 => Inv X pins σ H s1) E (by rw [hn']; exact ⟨hz, hTI, hTO, ⟨h1, p⟩, h2, p2⟩) fun h' tk hk _ => I.turnedL (ch := [z, TI, TO, i1, i2]) (fun c o hb q => hk c o (fun m => hb (by
      rcases (show c = z ∨ c = TO ∨ c = i1 ∨ c = i2 by simpa using m) with r | r | r | r <;> simp [r])) q) hf
  self := fun A i s Q E st h => wpAny_pyIter_zip st.1 h
theorem pi_zipK {k1 k2 : Bool} {X : Cx} {tg : Expr} {pins : List (Addr × Obj)} {σ : St} {H : Hp} {s : Shared} {R : L2.It → Hp → Prop} {a b : Addr} {xs ys : List V} {elts : List Expr} {kk : Nat} {tpos : Pos} (htg : tg = .Tuple elts kk tpos) (I : Inv X pins σ H s) (hx : SqK k1 X.K H a xs) (hy : SqK k2 X.K H b ys)
    (q : R (JZ k1 k2 X.K a b) H) : wpAny (model X.prog X.w) X.A (call (.type "zip") [.ref a, .ref b]) (fun v s1 => wpAny (model X.prog X.w) X.A (pyIter v) (PIE X pins σ tg R) X.xe s1) X.xe s := by
  subst htg
  obtain ⟨its, rv, p⟩ := sqK_seq I hx
  obtain ⟨its2, rv2, p2⟩ := sqK_seq I hy
  have la : a < s.heap.objs.size := by obtain ⟨_, _, _, e, _⟩ := seqK_lt p; exact Heap.lt_size e
  have lb : b < s.heap.objs.size := by obtain ⟨_, _, _, e, _⟩ := seqK_lt p2; exact Heap.lt_size e
  refine zip_begins2 (beginsK a its.toArray) (beginsK b its2.toArray) p p2 fun h' hz hTI hTO h1 h2 hsz hk => wpAny_pyIter_zip hz ?_
  have I2 : Inv X pins σ H { s with heap := h' } := I.kept (t' := s.toks) hk
  refine ⟨s.heap.objs.size + 4, [s.heap.objs.size + 4, s.heap.objs.size + 2, s.heap.objs.size + 3, s.heap.objs.size, s.heap.objs.size + 1], _, _, H, rfl, I2, turn_zipK (zip_sep2 (fun c hc => by rw [show c = a by simpa using hc]; exact la) (fun c hc => by rw [show c = b by simpa using hc]; exact lb)), ⟨hz, hTI, ⟨_, _, hTO⟩, itK_new h1, itK_new h2⟩, fun c hcm => ?_, q⟩
  have hle : s.heap.objs.size ≤ c := by
    rcases (show c = s.heap.objs.size + 4 ∨ c = s.heap.objs.size + 2 ∨ c = s.heap.objs.size + 3 ∨ c = s.heap.objs.size ∨ c = s.heap.objs.size + 1 by simpa using hcm) with z | z | z | z | z
    · rw [z]; exact Nat.le_add_right _ _
    · rw [z]; exact Nat.le_add_right _ _
    · rw [z]; exact Nat.le_add_right _ _
    · rw [z]; exact Nat.le_refl _
    · rw [z]; exact Nat.le_add_right _ _
  exact I.fpOk hle (I.hok.fresh hle)
def JS (k : Bool) (K : PySem.W.Frag) (a : Addr) : L2.It := match k with | true => Itl K a | false => Itt K a
theorem pi_seqK {k : Bool} {X : Cx} {tg : Expr} {pins : List (Addr × Obj)} {σ : St} {H : Hp} {s : Shared} {R : L2.It → Hp → Prop} {a : Addr} {xs : List V} (I : Inv X pins σ H s) (hq : SqK k X.K H a xs) (q : R (JS k X.K a) H) :
    wpAny (model X.prog X.w) X.A (pyIter (.ref a)) (PIE X pins σ tg R) X.xe s := by
  have fp : ∀ b ∈ [s.heap.objs.size], FpOk X pins H b := fun b hb => by
    have e : b = s.heap.objs.size := by simpa using hb
    rw [e]; exact I.fpOk (Nat.le_refl _) (I.hok.fresh (Nat.le_refl _))
  cases k with
  | true =>
    obtain ⟨its, rv, p, _⟩ := I.list hq
    exact wpAny_pyIter_list p.isList ⟨s.heap.objs.size, [s.heap.objs.size], _, _, H, rfl, I.kept (t' := s.toks) fun b o e => Heap.get?_push_of_some _ e, turn_list a _, ⟨_, Heap.get?_push_size _ rfl, rfl, rfl⟩, fp, q⟩
  | false =>
    obtain ⟨its, rv, p, _⟩ := I.tuple hq
    exact wpAny_pyIter_tuple (show s.heap.IsTuple a its.toArray from p) ⟨s.heap.objs.size, [s.heap.objs.size], _, _, H, rfl, I.kept (t' := s.toks) fun b o e => Heap.get?_push_of_some _ e, turn_tuple a _, ⟨_, Heap.get?_push_size _ rfl, rfl, rfl⟩, fp, q⟩

/-! ### the walks by what they give -/
section
variable {X : Cx} {G : Gx} {W : Wd} {Wx : WX}
/-- a list or tuple that is never changed again -/
theorem repl_scr {F : Hp} : ∀ xs : List Int, RepL G F (xs.map .int) (xs.map V.int) := repL_map_int
theorem seq_rep (hK : G.K = X.K) {F : Hp} {d : D} {v : V} {xs : List D} (r : Rep G F d v) (e : seqOf d = some xs) : ∃ (k : Bool) (a : Addr) (vs : List V), v = .ref a ∧ (∀ H, Same F H → SqK k X.K H a vs) ∧ RepL G F xs vs := by
  cases d <;> first | (cases e; done) | skip
  · cases e
    unfold Rep at r
    obtain ⟨a, vs, rfl, h1, h2⟩ := r
    rw [hK] at h1
    exact ⟨false, a, vs, rfl, fun H le => sqt_mono le h1, h2⟩
  · cases e
    unfold Rep at r
    obtain ⟨a, vs, rfl, h1, h2⟩ := r
    exact ⟨true, a, vs, rfl, fun H le => .of (le _ _ h1), h2⟩
  · cases e
    unfold Rep at r
    obtain ⟨a, rfl, h1⟩ := r
    rw [hK] at h1
    exact ⟨true, a, _, rfl, fun H le => le.seq h1, repl_scr _⟩
theorem sqK_self {k : Bool} {K : PySem.W.Frag} {H : Hp} {a : Addr} {vs ws : List V} {i : Nat} {x : V} (h : SqK k K H a vs) (q : ∀ xs, SqK k K H a xs → xs[i]? = some x) : vs[i]? = some x := q vs h
theorem ok_seq {k : Bool} {K : PySem.W.Frag} {F : Hp} {a : Addr} {xs : List D} {vs : List V} (h : ∀ H, Same F H → SqK k K H a vs) (r : RepL G F xs vs) : ItOk G (JS k K a) xs F := by
  intro F' H' σ ρ m ok i
  have hH := h H' fun b u q => ok.le _ _ (m _ _ q)
  cases k with
  | true =>
    refine ⟨fun d hd => ?_, fun hn => ⟨vs, hH, by rw [r.len, hn]; exact Nat.le_refl _⟩⟩
    obtain ⟨v, h1, h2⟩ := r.get hd
    refine ⟨⟨vs, v, hH, h1⟩, fun x H'' ⟨e, y⟩ => ?_⟩
    subst e
    have := y vs hH
    rw [h1] at this; cases this
    exact ⟨F', Go.refl ok, h2.mono m⟩
  | false =>
    refine ⟨fun d hd => ?_, fun hn => ⟨vs, hH, by rw [r.len, hn]; exact Nat.le_refl _⟩⟩
    obtain ⟨v, h1, h2⟩ := r.get hd
    refine ⟨⟨vs, v, hH, h1⟩, fun x H'' ⟨e, y⟩ => ?_⟩
    subst e
    have := y vs hH
    rw [h1] at this; cases this
    exact ⟨F', Go.refl ok, h2.mono m⟩
theorem enumL_get : ∀ {xs : List D} {i j : Nat} {d : D}, (enumL j xs)[i]? = some d → ∃ x, xs[i]? = some x ∧ d = .tup [.int ((j + i : Nat) : Int), x]
  | [], _, _, _, h => by simp [enumL] at h
  | x :: xs, 0, j, d, h => by
    have h' : some (D.tup [.int (j : Int), x]) = some d := h
    cases h'
    exact ⟨x, rfl, by simp⟩
  | x :: xs, i + 1, j, d, h => by
    obtain ⟨y, h1, h2⟩ := enumL_get (xs := xs) (i := i) (j := j + 1) h
    refine ⟨y, h1, ?_⟩
    rw [h2, show j + 1 + i = j + (i + 1) by omega]
theorem enumL_len : ∀ (xs : List D) (j : Nat), (enumL j xs).length = xs.length
  | [], _ => rfl
  | x :: xs, j => by show (enumL (j + 1) xs).length + 1 = xs.length + 1; rw [enumL_len]
theorem ok_enum {k : Bool} {K : PySem.W.Frag} {F : Hp} {a : Addr} {xs : List D} {vs : List V} (h : ∀ H, Same F H → SqK k K H a vs) (r : RepL G F xs vs) : ItOk G (JE k K a) (enumL 0 xs) F := by
  intro F' H' σ ρ m ok i
  have hH := h H' fun b u q => ok.le _ _ (m _ _ q)
  refine ⟨fun d hd => ?_, fun hn => ⟨vs, hH, by rw [r.len, hn, enumL_len]⟩⟩
  obtain ⟨x, h0, rfl⟩ := enumL_get hd
  obtain ⟨v, h1, h2⟩ := r.get h0
  refine ⟨⟨vs, v, hH, h1⟩, fun w H'' ⟨T, y, e1, hT, e2, hy⟩ => ?_⟩
  subst e1 e2
  have := hy vs hH
  rw [h1] at this; cases this
  rw [Nat.zero_add]
  exact go_tup ok hT (RepL.cons rep_int (RepL.one (h2.mono m)))
theorem zipL_get : ∀ {xs ys : List D} {i : Nat} {d : D}, (zipL xs ys)[i]? = some d → ∃ x y, xs[i]? = some x ∧ ys[i]? = some y ∧ d = .tup [x, y]
  | [], _, _, _, h => by simp [zipL] at h
  | _ :: _, [], _, _, h => by simp [zipL] at h
  | x :: xs, y :: ys, 0, d, h => by
    have h' : some (D.tup [x, y]) = some d := h
    cases h'
    exact ⟨x, y, rfl, rfl, rfl⟩
  | x :: xs, y :: ys, i + 1, d, h => zipL_get (xs := xs) (ys := ys) (i := i) h
theorem zipL_len : ∀ (xs ys : List D), (zipL xs ys).length = min xs.length ys.length
  | [], _ => by simp [zipL]
  | _ :: _, [] => by simp [zipL]
  | x :: xs, y :: ys => by
    show (zipL xs ys).length + 1 = _
    rw [zipL_len, List.length_cons, List.length_cons]; omega
theorem ok_zip {k1 k2 : Bool} {K : PySem.W.Frag} {F : Hp} {a b : Addr} {xs ys : List D} {vs ws : List V} (h : ∀ H, Same F H → SqK k1 K H a vs) (r : RepL G F xs vs) (h' : ∀ H, Same F H → SqK k2 K H b ws) (r' : RepL G F ys ws) : ItOk G (JZ k1 k2 K a b) (zipL xs ys) F := by
  intro F' H' σ ρ m ok i
  have hH := h H' fun b u q => ok.le _ _ (m _ _ q)
  have hH' := h' H' fun b u q => ok.le _ _ (m _ _ q)
  refine ⟨fun d hd => ?_, fun hn => ⟨vs, ws, hH, hH', by rw [r.len, r'.len, hn, zipL_len]⟩⟩
  obtain ⟨x, y, h0, h0', rfl⟩ := zipL_get hd
  obtain ⟨v, h1, h2⟩ := r.get h0
  obtain ⟨u, h1', h2'⟩ := r'.get h0'
  refine ⟨⟨vs, ws, v, u, hH, hH', h1, h1'⟩, fun w H'' ⟨T, p, q, e1, hT, e2, hp, hq⟩ => ?_⟩
  subst e1 e2
  have := hp vs hH
  rw [h1] at this; cases this
  have := hq ws hH'
  rw [h1'] at this; cases this
  exact go_tup ok hT (RepL.cons (h2.mono m) (RepL.one (h2'.mono m)))
theorem ok_rng {F : Hp} {lo : Int} {n : Nat} : ItOk G (Itr lo n) ((List.range n).map fun t => .int (lo + (t : Nat))) F := by
  intro F' H' σ ρ m ok i
  refine ⟨fun d hd => ?_, fun hn => ?_⟩
  · rw [List.getElem?_map] at hd
    by_cases hi : i < n
    · rw [List.getElem?_range hi] at hd
      cases hd
      exact ⟨hi, fun x H'' ⟨e1, e2⟩ => by subst e1 e2; exact ⟨F', Go.refl ok, rep_int⟩⟩
    · rw [List.getElem?_eq_none (by simpa using hi)] at hd; cases hd
  · show n ≤ i
    rw [hn]; simp
theorem ok_rngC {F : Hp} {lo c : Int} {n : Nat} : ItOk G (Itc lo c n) ((List.range n).map fun t => .int (lo + (t : Nat) * c)) F := by
  intro F' H' σ ρ m ok i
  refine ⟨fun d hd => ?_, fun hn => ?_⟩
  · rw [List.getElem?_map] at hd
    by_cases hi : i < n
    · rw [List.getElem?_range hi] at hd
      cases hd
      exact ⟨hi, fun x H'' ⟨e1, e2⟩ => by subst e1 e2; exact ⟨F', Go.refl ok, rep_int⟩⟩
    · rw [List.getElem?_eq_none (by simpa using hi)] at hd; cases hd
  · show n ≤ i
    rw [hn]; simp
/-! ### the rules -/
variable {e tg : Expr} {es : List Expr} {e' : E} {es' : List E} {p pos : Pos}
theorem it_seq (hK : G.K = X.K) (he : PE X e (rdE G W Wx e')) : PI X tg e (rdIF G Wx (evI W (.seq e'))) := by
  refine ⟨fun pins s σ H Rr I ⟨F, ρ, ok, q⟩ => ?_⟩
  have q0 : match (ev W e' ρ).bind fun (r, ρ1) => (R.opt (seqOf r.d)).bind fun xs => R.ok (xs, ρ1) with
    | .ok (xs, ρ1) => ∀ J F1 H1, Go G F H σ ρ F1 H1 σ ρ1 → ItOk G J xs F1 → Rr J H1
    | .exc c d ρ' => excK G Wx F H σ ρ c d ρ' σ
    | .bad => False := q
  clear q
  refine thn (he.run pins s σ H (fun x H1 => ∃ (k : Bool) (a : Addr) (vs : List V), x = .ref a ∧ SqK k X.K H1 a vs ∧ Rr (JS k X.K a) H1) I ⟨F, ρ, ok, ?_⟩) fun v s1 ⟨x, H1, I1, r1, k, a, vs, e1, hq, q1⟩ => ?_
  · cases r : ev W e' ρ with
    | bad => rw [r] at q0; exact q0
    | exc c d ρ' => rw [r] at q0; exact q0
    | ok t =>
      obtain ⟨r', ρ1⟩ := t
      rw [r] at q0
      intro v F1 H1 g rr
      obtain ⟨F2, g2, m, rep⟩ := freeze ok g rr
      cases e2 : seqOf r'.d with
      | none => simp only [R.bind, e2, R.opt] at q0
      | some xs =>
        simp only [R.bind, e2, R.opt] at q0
        obtain ⟨k, a, vs, rfl, h1, h2⟩ := seq_rep hK rep e2
        exact ⟨k, a, vs, rfl, h1 _ g2.ok.le, q0 _ F2 H1 g2 (ok_seq h1 h2)⟩
  · subst e1
    cases r1
    exact pi_seqK I1 hq q1
theorem evL_len : ∀ {es : List E} {ρ ρ' : Rho} {ds : List D}, evL W es ρ = .ok (ds, ρ') → ds.length = es.length
  | [], _, _, _, h => by cases h; rfl
  | e :: es, ρ, ρ', ds, h => by
    have h0 : (ev W e ρ).bind (fun (x, ρ1) => (evL W es ρ1).bind fun (xs, ρ2) => R.ok (x.d :: xs, ρ2)) = .ok (ds, ρ') := h
    cases r : ev W e ρ with
    | bad => rw [r] at h0; cases h0
    | exc c d ρ' => rw [r] at h0; cases h0
    | ok t =>
      obtain ⟨x, ρ1⟩ := t
      rw [r] at h0
      cases r2 : evL W es ρ1 with
      | bad => simp only [R.bind, r2] at h0; cases h0
      | exc c d ρ' => simp only [R.bind, r2] at h0; cases h0
      | ok t =>
        obtain ⟨xs, ρ2⟩ := t
        simp only [R.bind, r2] at h0
        cases h0
        rw [List.length_cons, List.length_cons, evL_len r2]
theorem itb_then {b : IB} {σ : St} {H : Hp} {Rr : L2.It → Hp → Prop} {Q1 : List V → Hp → Prop} (q : rdIF G Wx (evI W (.bi b es')) σ H Rr)
    (h : ∀ vs F1 H1 ρ1 ds xs, ds.length = es'.length → Ok G F1 H1 σ ρ1 → RepL G F1 ds vs → itB b ds = some xs → (∀ J, ItOk G J xs F1 → Rr J H1) → Q1 vs H1) : rdLF G Wx (evL W es') σ H Q1 := by
  obtain ⟨F, ρ, ok, q⟩ := q
  have q0 : match (evL W es' ρ).bind fun (ds, ρ1) => (R.opt (itB b ds)).bind fun xs => R.ok (xs, ρ1) with
    | .ok (xs, ρ1) => ∀ J F1 H1, Go G F H σ ρ F1 H1 σ ρ1 → ItOk G J xs F1 → Rr J H1
    | .exc c d ρ' => excK G Wx F H σ ρ c d ρ' σ
    | .bad => False := q
  clear q
  refine ⟨F, ρ, ok, ?_⟩
  cases r : evL W es' ρ with
  | bad => rw [r] at q0; exact q0
  | exc c d ρ' => rw [r] at q0; exact q0
  | ok t =>
    obtain ⟨ds, ρ1⟩ := t
    rw [r] at q0
    intro vs F1 H1 g rl
    cases e2 : itB b ds with
    | none => simp only [R.bind, e2, R.opt] at q0
    | some xs =>
      simp only [R.bind, e2, R.opt] at q0
      exact h vs F1 H1 ρ1 ds xs (evL_len r) g.ok rl e2 fun J hJ => q0 J F1 H1 g hJ
theorem rOk_iff {n : Int} (h : rOk n = true) : -(2 ^ 62) ≤ n ∧ n < 2 ^ 62 := by
  unfold rOk at h
  rw [Bool.and_eq_true] at h
  exact ⟨of_decide_eq_true h.1, of_decide_eq_true h.2⟩
theorem repL1 {F : Hp} {d : D} {vs : List V} (h : RepL G F [d] vs) : ∃ v, vs = [v] ∧ Rep G F d v := by
  unfold RepL at h
  obtain ⟨v, us, rfl, h1, h2⟩ := h
  unfold RepL at h2
  exact ⟨v, by rw [h2], h1⟩
theorem repL2 {F : Hp} {d e : D} {vs : List V} (h : RepL G F [d, e] vs) : ∃ v w, vs = [v, w] ∧ Rep G F d v ∧ Rep G F e w := by
  unfold RepL at h
  obtain ⟨v, us, rfl, h1, h2⟩ := h
  obtain ⟨w, rfl, h3⟩ := repL1 h2
  exact ⟨v, w, rfl, h1, h3⟩
theorem repL3 {F : Hp} {d e f : D} {vs : List V} (h : RepL G F [d, e, f] vs) : ∃ v w u, vs = [v, w, u] ∧ Rep G F d v ∧ Rep G F e w ∧ Rep G F f u := by
  unfold RepL at h
  obtain ⟨v, us, rfl, h1, h2⟩ := h
  obtain ⟨w, u, rfl, h3, h4⟩ := repL2 h2
  exact ⟨v, w, u, rfl, h1, h3, h4⟩
theorem repI {F : Hp} {i : Int} {v : V} (h : Rep G F (.int i) v) : v = .int i := by unfold Rep at h; exact h
theorem it_rng1 {a : Expr} {a' : E} (hm : X.mg "range" = none) (ha : PA X [a] (rdLF G Wx (evL W [a']))) (hg : Gl X "range" := by rfl) (hs : starEach [a] X.env = [(false, eval a X.env)] := by rfl) :
    PI X tg (.Call (.Name "range" p) [a] [] pos) (rdIF G Wx (evI W (.bi .rng [a']))) := by
  refine pi_imp (pi_range1 hg hm ha hs) fun σ H Rr q => itb_then q fun vs F1 H1 ρ1 ds xs l ok r e k => ?_
  match ds, l with
  | [d], _ =>
    obtain ⟨v, rfl, h1⟩ := repL1 r
    cases d <;> first | (cases e; done) | skip
    rename_i n _
    replace e : (if rOk n then some (rngL 0 n) else none) = some xs := e
    split at e
    · rename_i hn
      cases e
      obtain ⟨b1, b2⟩ := rOk_iff hn
      refine ⟨n, by rw [repI h1], b1, b2, k _ ?_⟩
      have := ok_rng (G := G) (F := F1) (lo := 0) (n := n.toNat)
      unfold rngL
      rw [Int.sub_zero]; exact this
    · cases e
theorem it_rng2 {a b : Expr} {a' b' : E} (hm : X.mg "range" = none) (ha : PA X [a, b] (rdLF G Wx (evL W [a', b']))) (hg : Gl X "range" := by rfl) (hs : starEach [a, b] X.env = [(false, eval a X.env), (false, eval b X.env)] := by rfl) (hs2 : starEach [b] X.env = [(false, eval b X.env)] := by rfl) :
    PI X tg (.Call (.Name "range" p) [a, b] [] pos) (rdIF G Wx (evI W (.bi .rng [a', b']))) := by
  refine pi_imp (pi_range2 hg hm ha hs hs2) fun σ H Rr q => itb_then q fun vs F1 H1 ρ1 ds xs l ok r e k => ?_
  match ds, l with
  | [d1, d2], _ =>
    obtain ⟨v, w, rfl, h1, h2⟩ := repL2 r
    cases d1 <;> first | (cases e; done) | skip
    cases d2 <;> first | (cases e; done) | skip
    rename_i m n _
    replace e : (if rOk m && rOk n then some (rngL m n) else none) = some xs := e
    split at e
    · rename_i hn
      cases e
      rw [Bool.and_eq_true] at hn
      obtain ⟨b1, b2⟩ := rOk_iff hn.1
      obtain ⟨b3, b4⟩ := rOk_iff hn.2
      exact ⟨m, n, by rw [repI h1, repI h2], ⟨b1, b2, b3, b4⟩, k _ ok_rng⟩
    · cases e
theorem it_rng3 {a b c : Expr} {a' b' c' : E} (hm : X.mg "range" = none) (ha : PA X [a, b, c] (rdLF G Wx (evL W [a', b', c']))) (hg : Gl X "range" := by rfl) (hs : starEach [a, b, c] X.env = (false, eval a X.env) :: starEach [b, c] X.env := by rfl) (hpl : (backTo pos (starEach [b, c] X.env)).any (·.1) = false := by rfl) :
    PI X tg (.Call (.Name "range" p) [a, b, c] [] pos) (rdIF G Wx (evI W (.bi .rng [a', b', c']))) := by
  refine pi_imp (pi_range3 hg hm ha hs hpl) fun σ H Rr q => itb_then q fun vs F1 H1 ρ1 ds xs l ok r e k => ?_
  match ds, l with
  | [d1, d2, d3], _ =>
    obtain ⟨v, w, u, rfl, h1, h2, h3⟩ := repL3 r
    cases d1 <;> first | (cases e; done) | skip
    cases d2 <;> first | (cases e; done) | skip
    cases d3 <;> first | (cases e; done) | skip
    rename_i i j c _
    replace e : rng3 i j c = some xs := e
    unfold rng3 at e
    split at e
    · rename_i hn
      cases e
      simp only [Bool.and_eq_true] at hn
      obtain ⟨⟨⟨c1, c2⟩, c3⟩, c4⟩ := hn
      exact ⟨i, j, c, _, by rw [repI h1, repI h2, repI h3], ⟨of_decide_eq_true c1, of_decide_eq_true c2, c3, of_decide_eq_true c4⟩, k _ ok_rngC⟩
    · cases e
variable {elts : List Expr} {kk : Nat} {tpos : Pos}
theorem it_enum (hK : G.K = X.K) {a : Expr} {a' : E} (hm : X.mg "enumerate" = none) (ha : PA X [a] (rdLF G Wx (evL W [a']))) (hg : Gl X "enumerate" := by rfl) (hs : starEach [a] X.env = [(false, eval a X.env)] := by rfl) :
    PI X (.Tuple elts kk tpos) (.Call (.Name "enumerate" p) [a] [] pos) (rdIF G Wx (evI W (.bi .enum [a']))) := by
  refine ⟨fun pins s σ H Rr I q => ?_⟩
  refine Call_ (ld_blt I hg hm boot_enumerate (PyProof.Rows.callWith_type1 (thn (ha.run pos pins s σ H (fun vs H1 => ∃ (k : Bool) (a : Addr) (xs : List V), vs = [.ref a] ∧ SqK k X.K H1 a xs ∧ Rr (JE k X.K a) H1) I ?_) fun us s1 ⟨vs, H1, I1, r1, q1⟩ => ?_) hs rfl))
  · refine itb_then q fun vs F1 H1 ρ1 ds xs l ok r e k => ?_
    match ds, l with
    | [d], _ =>
      obtain ⟨v, rfl, h1⟩ := repL1 r
      replace e : (seqOf d).map (enumL 0) = some xs := e
      cases e2 : seqOf d with
      | none => rw [e2] at e; cases e
      | some ys =>
        rw [e2] at e
        cases e
        obtain ⟨kd, a, vs, rfl, h2, h3⟩ := seq_rep hK h1 e2
        exact ⟨kd, a, vs, rfl, h2 _ ok.le, k _ (ok_enum h2 h3)⟩
  · obtain ⟨k, a, xs, rfl, hq, q⟩ := q1
    cases r1 with
    | cons r rr =>
      cases rr
      cases r
      exact pi_enumK rfl I1 hq q
theorem it_zip (hK : G.K = X.K) {a b : Expr} {a' b' : E} (hm : X.mg "zip" = none) (ha : PA X [a, b] (rdLF G Wx (evL W [a', b']))) (hg : Gl X "zip" := by rfl) (hs : starEach [a, b] X.env = (false, eval a X.env) :: starEach [b] X.env := by rfl) (hpl : (backTo pos (starEach [b] X.env)).any (·.1) = false := by rfl) :
    PI X (.Tuple elts kk tpos) (.Call (.Name "zip" p) [a, b] [] pos) (rdIF G Wx (evI W (.bi .zip [a', b']))) := by
  refine ⟨fun pins s σ H Rr I q => ?_⟩
  refine Call_ (ld_blt I hg hm PyProof.Rows.boot_zip (PyProof.Rows.callWith_type1 (thn (ha.run pos pins s σ H (fun vs H1 => ∃ (k1 k2 : Bool) (a b : Addr) (xs ys : List V), vs = [.ref a, .ref b] ∧ SqK k1 X.K H1 a xs ∧ SqK k2 X.K H1 b ys ∧ Rr (JZ k1 k2 X.K a b) H1) I ?_) fun us s1 ⟨vs, H1, I1, r1, q1⟩ => ?_) hs hpl))
  · refine itb_then q fun vs F1 H1 ρ1 ds xs l ok r e k => ?_
    match ds, l with
    | [d1, d2], _ =>
      obtain ⟨v, w, rfl, h1, h2⟩ := repL2 r
      replace e : (match seqOf d1, seqOf d2 with | some xs, some ys => some (zipL xs ys) | _, _ => none) = some xs := e
      cases e2 : seqOf d1 with
      | none => rw [e2] at e; cases e
      | some ys =>
        cases e3 : seqOf d2 with
        | none => rw [e2, e3] at e; cases e
        | some zs =>
          rw [e2, e3] at e
          cases e
          obtain ⟨k1, a, vs, rfl, h4, h5⟩ := seq_rep hK h1 e2
          obtain ⟨k2, b, ws, rfl, h6, h7⟩ := seq_rep hK h2 e3
          exact ⟨k1, k2, a, b, vs, ws, rfl, h4 _ ok.le, h6 _ ok.le, k _ (ok_zip h4 h5 h6 h7)⟩
  · obtain ⟨k1, k2, a, b, xs, ys, rfl, hx, hy, q⟩ := q1
    cases r1 with
    | cons r rr =>
      cases rr with
      | cons r' rr =>
        cases rr
        cases r
        cases r'
        exact pi_zipK rfl I1 hx hy q
end
end Dp
/-! List displays with a for. -/
namespace Dp
open PySem PySem.Spec PyProof.Rows L2

/-! ### the names of a display -/
section
theorem wipeR_len : ∀ {ρ : Rho} (w : List Nat), (wipeR ρ w).length = ρ.length
  | _, [] => rfl
  | ρ, v :: w => by show ((wipeR ρ w).set v .no).length = _; rw [List.length_set, wipeR_len]
theorem wipeR_in {ρ : Rho} {j : Nat} : ∀ {w : List Nat}, j ∈ w → ∀ s, (wipeR ρ w)[j]? = some s → s = .no
  | v :: w, h, s, e => by
    replace e : ((wipeR ρ w).set v .no)[j]? = some s := e
    by_cases c : v = j
    · subst c
      by_cases l : v < (wipeR ρ w).length
      · rw [List.getElem?_set_self l] at e; exact (Option.some.inj e).symm
      · rw [List.getElem?_eq_none (by simpa using l)] at e; cases e
    · rw [List.getElem?_set_ne c] at e
      rcases List.mem_cons.mp h with z | z
      · exact absurd z.symm c
      · exact wipeR_in z s e
theorem wipeR_out {ρ : Rho} {j : Nat} : ∀ {w : List Nat}, j ∉ w → (wipeR ρ w)[j]? = ρ[j]?
  | [], _ => rfl
  | v :: w, h => by
    show ((wipeR ρ w).set v .no)[j]? = _
    rw [List.getElem?_set_ne (fun z => h (by rw [z]; exact List.mem_cons_self)), wipeR_out fun m => h (List.mem_cons_of_mem _ m)]
theorem unwipe_len {ρ0 : Rho} : ∀ {ρ : Rho} (w : List Nat), (unwipe ρ0 ρ w).length = ρ.length
  | _, [] => rfl
  | ρ, v :: w => by
    show ((unwipe ρ0 ρ w).set v _).length = _
    rw [List.length_set, unwipe_len]
theorem unwipe_in {ρ0 ρ : Rho} {j : Nat} : ∀ {w : List Nat}, j ∈ w → ∀ s, (unwipe ρ0 ρ w)[j]? = some s → s = .no ∨ ∃ d, s = .sh d ∧ ρ0[j]? = some (.sh d)
  | v :: w, h, s, e => by
    replace e : ((unwipe ρ0 ρ w).set v (match ρ0[v]? with | some (.sh d) => .sh d | _ => .no))[j]? = some s := e
    by_cases c : v = j
    · subst c
      by_cases l : v < (unwipe ρ0 ρ w).length
      · rw [List.getElem?_set_self l] at e
        replace e := Option.some.inj e
        split at e
        · rename_i d h0
          exact .inr ⟨d, e.symm, h0⟩
        · exact .inl e.symm
      · rw [List.getElem?_eq_none (by simpa using l)] at e; cases e
    · rw [List.getElem?_set_ne c] at e
      rcases List.mem_cons.mp h with z | z
      · exact absurd z.symm c
      · exact unwipe_in z s e
theorem unwipe_out {ρ0 ρ : Rho} {j : Nat} : ∀ {w : List Nat}, j ∉ w → (unwipe ρ0 ρ w)[j]? = ρ[j]?
  | [], _ => rfl
  | v :: w, h => by
    show ((unwipe ρ0 ρ w).set v _)[j]? = _
    rw [List.getElem?_set_ne (fun z => h (by rw [z]; exact List.mem_cons_self)), unwipe_out fun m => h (List.mem_cons_of_mem _ m)]
theorem wipe_inx {σ : St} {j : Nat} : ∀ {w : List Nat}, j ∈ w → (wipe σ w)[j]? = if j < σ.length then some none else none
  | v :: w, h => by
    show ((wipe σ w).set v none)[j]? = _
    by_cases c : v = j
    · subst c
      by_cases l : v < σ.length
      · rw [List.getElem?_set_self (by rw [wipe_length]; exact l), if_pos l]
      · rw [List.getElem?_eq_none (by rw [List.length_set, wipe_length]; omega), if_neg l]
    · rw [List.getElem?_set_ne c]
      rcases List.mem_cons.mp h with z | z
      · exact absurd z.symm c
      · exact wipe_inx z
theorem wipe_same {σ σ2 : St} {w : List Nat} (hl : σ2.length = σ.length) (h : ∀ j, j ∉ w → σ2[j]? = (wipe σ w)[j]?) : wipe σ2 w = wipe σ w := by
  refine List.ext_getElem? fun j => ?_
  by_cases c : j ∈ w
  · rw [wipe_inx c, wipe_inx c, hl]
  · rw [wipe_out c, h j c]
end

section
variable {X : Cx} {G : Gx} {W : Wd} {Wx : WX}
section
variable {F F1 F2 H H1 H2 : Hp} {σ σ1 σ2 : St} {ρ ρ1 ρ2 : Rho} {w : List Nat}
theorem isOw_wipe {j : Nat} {d : D} (h : isOw (wipeR ρ w) j d) : j ∉ w ∧ isOw ρ j d := by
  by_cases c : j ∈ w
  · rcases h with h | h <;> cases wipeR_in c _ h
  · unfold isOw at h ⊢
    rw [wipeR_out c] at h
    exact ⟨c, h⟩
theorem isOw_unwipe {ρ0 : Rho} {j : Nat} {d : D} (h : isOw (unwipe ρ0 ρ w) j d) : j ∉ w ∧ isOw ρ j d := by
  by_cases c : j ∈ w
  · rcases h with h | h
    · rcases unwipe_in c _ h with z | ⟨_, z, _⟩ <;> cases z
    · rcases unwipe_in c _ h with z | ⟨_, z, _⟩ <;> cases z
  · unfold isOw at h ⊢
    rw [unwipe_out c] at h
    exact ⟨c, h⟩
/-- into the block -/
theorem ok_wipe (ok : Ok G F H σ ρ) : Ok G F H (wipe σ w) (wipeR ρ w) := by
  refine ⟨by rw [wipe_length, wipeR_len]; exact ok.len, ok.le, fun j d h => ?_, fun j d h => ?_, fun j k d1 d2 a hjk h1 h2 h3 h4 => ?_, ok.dct⟩
  · by_cases c : j ∈ w
    · cases wipeR_in c _ h
    · rw [wipeR_out c] at h
      rw [wipe_out c]
      exact ok.sh j d h
  · obtain ⟨c, q⟩ := isOw_wipe h
    rw [wipe_out c]
    exact ok.ow j d q
  · obtain ⟨c1, q1⟩ := isOw_wipe h1
    obtain ⟨c2, q2⟩ := isOw_wipe h2
    rw [wipe_out c1] at h3
    rw [wipe_out c2] at h4
    exact ok.nd j k d1 d2 a hjk q1 q2 h3 h4
/-- a turn's names forgotten -/
theorem go_wipe (g : Go G F H (wipe σ w) (wipeR ρ w) F2 H2 σ2 ρ2) (e : wipe σ2 w = wipe σ w) : Go G F H (wipe σ w) (wipeR ρ w) F2 H2 (wipe σ w) (wipeR ρ2 w) := by
  have ok2 := ok_wipe (w := w) g.ok
  rw [e] at ok2
  refine ⟨ok2, g.mono, g.keep, g.keepF, g.there, g.shape, fun a ⟨j, d, h1, h2⟩ => ?_, fun j d h => ?_⟩
  · obtain ⟨c, q⟩ := isOw_wipe h1
    refine g.own a ⟨j, d, q, ?_⟩
    rw [← e, wipe_out c] at h2
    exact h2
  · have c : j ∉ w := fun z => by cases wipeR_in z _ h
    obtain ⟨⟨d', h1⟩, h2⟩ := g.io j d h
    exact ⟨⟨d', by rw [wipeR_out c]; exact h1⟩, rfl⟩
/-- out of the block -/
theorem go_unwipe (ok : Ok G F H σ ρ) (hw : wOk ρ w = true) (g : Go G F H (wipe σ w) (wipeR ρ w) F2 H2 (wipe σ w) ρ2) : Go G F H σ ρ F2 H2 σ (unwipe ρ ρ2 w) := by
  have own_in : ∀ {ρ' : Rho} {a : Addr}, (∀ {j d}, isOw ρ' j d → j ∉ w) → own σ ρ' a → own (wipe σ w) ρ' a := fun h ⟨j, d, h1, h2⟩ => ⟨j, d, h1, by rw [wipe_out (h h1)]; exact h2⟩
  have own_out : ∀ {a : Addr}, own (wipe σ w) (wipeR ρ w) a → own σ ρ a := fun ⟨j, d, h1, h2⟩ => by
    obtain ⟨c, q⟩ := isOw_wipe h1
    rw [wipe_out c] at h2
    exact ⟨j, d, q, h2⟩
  have own2 : ∀ {a : Addr}, own σ (unwipe ρ ρ2 w) a → own (wipe σ w) ρ2 a := fun ⟨j, d, h1, h2⟩ => by
    obtain ⟨c, q⟩ := isOw_unwipe h1
    exact ⟨j, d, q, by rw [wipe_out c]; exact h2⟩
  have len : σ.length = ρ2.length := by have := g.ok.len; rw [wipe_length] at this; exact this
  refine ⟨⟨by rw [unwipe_len]; exact len, g.ok.le, fun j d h => ?_, fun j d h => ?_, fun j k d1 d2 a hjk h1 h2 h3 h4 => ?_, g.ok.dct⟩, g.mono, fun a o h n => g.keep a o h fun z => n (own_out z), fun a h n => g.keepF a h fun z => n ?_, g.there, g.shape, fun a h => ?_, fun j d h => ?_⟩
  · by_cases c : j ∈ w
    · rcases unwipe_in c _ h with z | ⟨d', z, h0⟩
      · cases z
      · cases z
        obtain ⟨v, h1, h2⟩ := ok.sh j d h0
        exact ⟨v, h1, h2.mono g.mono⟩
    · rw [unwipe_out c] at h
      obtain ⟨v, h1, h2⟩ := g.ok.sh j d h
      rw [wipe_out c] at h1
      exact ⟨v, h1, h2⟩
  · obtain ⟨c, q⟩ := isOw_unwipe h
    obtain ⟨a, h1, h2⟩ := g.ok.ow j d q
    rw [wipe_out c] at h1
    exact ⟨a, h1, h2⟩
  · obtain ⟨c1, q1⟩ := isOw_unwipe h1
    obtain ⟨c2, q2⟩ := isOw_unwipe h2
    exact g.ok.nd j k d1 d2 a hjk q1 q2 (by rw [wipe_out c1]; exact h3) (by rw [wipe_out c2]; exact h4)
  · rcases z with z | ⟨b, hb, z⟩
    · exact .inl (own_out z)
    · exact .inr ⟨b, hb, own_out z⟩
  · exact (g.own a (own2 h)).imp own_out id
  · have c : j ∉ w := fun z => by
      have := List.all_eq_true.mp hw j z
      rw [h] at this; cases this
    obtain ⟨⟨d', h1⟩, _⟩ := g.io j d (by rw [wipeR_out c]; exact h)
    exact ⟨⟨d', by rw [unwipe_out c]; exact h1⟩, rfl⟩
/-- a new object of ours that no name holds is written -/
theorem go_app {p : Addr} {vs vs' : List V} (g : Go G F H σ ρ F2 H2 σ2 ρ2) (hp : H p = none) (hp2 : H2 p = some (.lst vs)) (fp : F2 p = none) (no : ¬ own σ2 ρ2 p) : Go G F H σ ρ F2 (upd H2 p (.lst vs')) σ2 ρ2 := by
  have up : ∀ {b u}, b ≠ p → H2 b = some u → upd H2 p (.lst vs') b = some u := fun hb h => by rw [upd_ne hb]; exact h
  have down : ∀ {b c}, upd H2 p (.lst vs') b = some (.own c) → H2 b = some (.own c) := fun {b c} h => by
    by_cases hb : b = p
    · subst hb; rw [upd_same] at h; cases h
    · rw [upd_ne hb] at h; exact h
  have there : ∀ b, H2 b ≠ none → upd H2 p (.lst vs') b ≠ none := fun b h => by
    by_cases hb : b = p
    · subst hb; rw [upd_same]; simp
    · rw [upd_ne hb]; exact h
  refine ⟨⟨g.ok.len, fun b u h => up (ne_of_none h fp) (g.ok.le _ _ h), g.ok.sh, fun j d h => ?_, g.ok.nd, fun b c h => there c (g.ok.dct _ _ (down h))⟩, g.mono, fun b u h n => up (fun z => by subst z; rw [hp] at h; cases h) (g.keep b u h n), g.keepF, fun b h => there b (g.there b h), fun b c h => g.shape b c (down h), g.own, g.io⟩
  obtain ⟨a, h1, h2⟩ := g.ok.ow j d h
  have ha : a ≠ p := fun z => by subst z; exact no ⟨j, d, h, h1⟩
  exact ⟨a, h1, h2.keep (fun _ _ q => q) h2.1 (fun u q => up ha q) fun dx q => ⟨up (fun z => by subst z; rw [hp2] at q; cases q) q, fun z => z⟩⟩
end

/-- what is asked inside a block: nothing is raised there -/
abbrev W0 : WX := fun _ _ _ _ => False
theorem pts_imp {ifs : List Expr} {t t' : TT} (h : PTs X ifs t) (i : ∀ σ H Q, t' σ H Q → t σ H Q) : PTs X ifs t' := ⟨fun p s σ H Q I q => h.run p s σ H Q I (i σ H Q q)⟩
theorem ts_nil : PTs X [] (rdTF G Wx (evT W [])) := pts_imp pts_nil fun σ H Q ⟨F, ρ, ok, q⟩ => q F H (Go.refl ok)
theorem ts_one {c : Expr} {c' : E} (h : PT X c (rdT G W Wx c')) : PTs X [c] (rdTF G Wx (evT W [c'])) := by
  refine pts_imp (pts_one h) fun σ H Q ⟨F, ρ, ok, q⟩ => ⟨F, ρ, ok, ?_⟩
  have e : evT W [c'] ρ = tst W c' ρ := by
    show (pk c' (ev W c') ρ).bind _ = (pk c' (ev W c') ρ).bind _
    cases pk c' (ev W c') ρ with
    | bad => rfl
    | exc c d ρ => rfl
    | ok p =>
      obtain ⟨x, ρ1⟩ := p
      show (match x.get ρ1 with | some (.bl true) => evT W [] ρ1 | some (.bl false) => .ok (false, ρ1) | _ => .bad) = (match x.get ρ1 with | some (.bl b) => .ok (b, ρ1) | _ => .bad)
      cases x.get ρ1 with
      | none => rfl
      | some d =>
        cases d <;> first | rfl | skip
        rename_i b
        cases b <;> rfl
  rw [e] at q
  exact q
mutual
theorem bindT_len : ∀ {t : T} {d : D} {ρ ρ' : Rho}, bindT t d ρ = some ρ' → ρ'.length = ρ.length
  | .nm i, d, ρ, ρ', h => by
    have h' : setR ρ i (.sh d) = some ρ' := h
    obtain ⟨_, e, _⟩ := setR_some h'
    rw [e, List.length_set]
  | .tp ts, d, ρ, ρ', h => by
    cases d <;> first | (cases h; done) | skip
    rename_i xs
    exact bindTs_keep (show bindTs ts xs ρ = some ρ' from h)
theorem bindTs_keep : ∀ {ts : List T} {ds : List D} {ρ ρ' : Rho}, bindTs ts ds ρ = some ρ' → ρ'.length = ρ.length
  | [], [], _, _, h => by cases h; rfl
  | [], _ :: _, _, _, h => nomatch h
  | _ :: _, [], _, _, h => nomatch h
  | t :: ts, d :: ds, ρ, ρ', h => by
    have h' : (match bindT t d ρ with | some ρ' => bindTs ts ds ρ' | none => none) = some ρ' := h
    cases e : bindT t d ρ with
    | none => rw [e] at h'; cases h'
    | some ρ1 =>
      rw [e] at h'
      rw [bindTs_keep (show bindTs ts ds ρ1 = some ρ' from h'), bindT_len e]
end
theorem lc_of {t : T} {it : Dp.It} {cs : List E} {e : E} {w : List Nat} {σ : St} {H : Hp} {Q : VK} (hn : ∀ j, hasT t j = true → j ∈ w) (q : rdE G W Wx (.comp w t it cs e) σ H Q) :
    tLc (rdIF G Wx (evI W it)) (rdG G t) (rdTF G W0 (evT W cs)) (rdE G W W0 e) w σ H Q := by
  obtain ⟨F, ρ, ok, q⟩ := q
  have q0 : rdR G Wx ((evI W it ρ).bind fun (xs, ρ1) => if wOk ρ1 w then
      (R.opt (compGo w t (evT W cs) (ev W e) xs [] (wipeR ρ1 w))).bind fun (acc, ρ') => .ok (.fr (.lst acc), unwipe ρ1 ρ' w)
      else .bad) F H σ ρ Q := q
  clear q
  refine ⟨F, ρ, ok, ?_⟩
  cases r : evI W it ρ with
  | bad => rw [r] at q0; exact q0
  | exc c d ρ' => rw [r] at q0; exact q0
  | ok p =>
    obtain ⟨xs, ρ1⟩ := p
    rw [r] at q0
    intro J F1 H1 g1 hJ D hD
    replace q0 : rdR G Wx (if wOk ρ1 w then
      (R.opt (compGo w t (evT W cs) (ev W e) xs [] (wipeR ρ1 w))).bind fun (acc, ρ') => .ok (.fr (.lst acc), unwipe ρ1 ρ' w)
      else .bad) F H σ ρ Q := q0
    cases hw : wOk ρ1 w with
    | false => rw [hw] at q0; exact q0.elim
    | true =>
      rw [hw, if_pos rfl] at q0
      cases hc : compGo w t (evT W cs) (ev W e) xs [] (wipeR ρ1 w) with
      | none => rw [hc] at q0; exact q0.elim
      | some res =>
        obtain ⟨accF, ρF⟩ := res
        rw [hc] at q0
        replace q0 : rdR G Wx (.ok (.fr (.lst accF), unwipe ρ1 ρF w)) F H σ ρ Q := q0
        have okw := ok_wipe (w := w) g1.ok
        have fD := free_F g1.ok hD
        have nD : ∀ {F2 H2 σ2 ρ2}, Go G F1 H1 (wipe σ w) (wipeR ρ1 w) F2 H2 σ2 ρ2 → H2 D ≠ none → True := fun _ _ => trivial
        refine ⟨fun i m H' => m = xs.length - i ∧ i ≤ xs.length ∧ ∃ F2 ρ2 acc vs, Go G F1 H1 (wipe σ w) (wipeR ρ1 w) F2 H' (wipe σ w) ρ2 ∧ H' D = some (.lst vs) ∧ RepL G F2 acc vs ∧ F2 D = none ∧ ¬ own (wipe σ w) ρ2 D ∧
          compGo w t (evT W cs) (ev W e) (xs.drop i) acc ρ2 = some (accF, ρF), ⟨xs.length, rfl, Nat.zero_le _, F1, wipeR ρ1 w, [], [], go_new okw hD (fun _ z => nomatch z), upd_same, RepL.nil, fD, fresh_own okw hD, hc⟩, ?_⟩
        rintro i m H2 ⟨rfl, il, F2, ρ2, acc, vs, g2, hD2, rl, fD2, nO2, hc2⟩
        obtain ⟨hd, hs⟩ := hJ F2 H2 (wipe σ w) ρ2 g2.mono g2.ok i
        have noOwn : ∀ b, H2 D ≠ some (.own b) := fun b z => by rw [hD2] at z; cases z
        have nF2 : ¬ foot H2 (wipe σ w) ρ2 D := fun z => by
          rcases z with z | ⟨b, z, _⟩
          · exact nO2 z
          · exact noOwn b z
        cases ei : xs[i]? with
        | none =>
          have hl : xs.length ≤ i := List.getElem?_eq_none_iff.mp ei
          rw [List.drop_eq_nil_of_le hl] at hc2
          have ea : acc = accF ∧ ρ2 = ρF := by
            have z : some (acc, ρ2) = some (accF, ρF) := hc2
            cases z; exact ⟨rfl, rfl⟩
          obtain ⟨rfl, rfl⟩ := ea
          have gU := go_unwipe g1.ok hw g2
          have gT := g1.trans ok gU
          refine .inl ⟨hs (Nat.le_antisymm il hl), q0 _ F2 H2 gT ⟨D, rfl, ⟨fD2, vs, hD2, rl⟩, fun ⟨j, d, h1, h2⟩ => ?_, ?_⟩⟩
          · obtain ⟨c, q⟩ := isOw_unwipe h1
            exact nO2 ⟨j, d, q, by rw [wipe_out c]; exact h2⟩
          · refine .inl ?_
            cases z : H D with
            | none => rfl
            | some o => exact absurd hD (g1.there D (by rw [z]; simp))
        | some d =>
          have hl : i < xs.length := (List.getElem?_eq_some_iff.mp ei).1
          have ed : xs.drop i = d :: xs.drop (i + 1) := by rw [List.drop_eq_getElem_cons hl, (List.getElem?_eq_some_iff.mp ei).2]
          rw [ed] at hc2
          unfold compGo at hc2
          refine .inr ⟨(hd d ei).1, fun H' => ∃ F2 ρ2 acc vs, Go G F1 H1 (wipe σ w) (wipeR ρ1 w) F2 H' (wipe σ w) ρ2 ∧ H' D = some (.lst vs) ∧ RepL G F2 acc vs ∧ F2 D = none ∧ ¬ own (wipe σ w) ρ2 D ∧
            compGo w t (evT W cs) (ev W e) (xs.drop (i + 1)) acc ρ2 = some (accF, ρF), fun H' n => ⟨_, by omega, rfl, hl, n⟩, fun x H3 y => ?_⟩
          obtain ⟨F3, g3, rep⟩ := (hd d ei).2 x H3 y
          refine ⟨F3, ρ2, d, g3.ok, rep, ?_⟩
          cases e4 : bindT t d ρ2 with
          | none => rw [e4] at hc2; cases hc2
          | some ρ4 =>
            rw [e4] at hc2
            dsimp only at hc2
            intro σ4 g4 k4
            have len4 : σ4.length = σ.length := by
              rw [g4.ok.len]
              have l1 := bindT_len e4
              rw [l1, ← g2.ok.len, wipe_length]
            have eσ : wipe σ4 w = wipe σ w := wipe_same len4 fun j hj => k4 j (by
              cases z : hasT t j with
              | false => rfl
              | true => exact absurd (hn j z) hj)
            have g34 := g3.trans g2.ok g4
            have g14 := g2.trans okw g34
            refine ⟨eσ, F3, ρ4, g4.ok, ?_⟩
            cases rt : evT W cs ρ4 with
            | bad => rw [rt] at hc2; cases hc2
            | exc c d ρ' => rw [rt] at hc2; cases hc2
            | ok pt =>
              obtain ⟨b, ρ5⟩ := pt
              rw [rt] at hc2
              intro F5 H5 g5
              have g25 := g34.trans g2.ok g5
              have g15 := g2.trans okw g25
              have hD5 : H5 D = some (.lst vs) := g25.keep D _ hD2 nO2
              have fD5 : F5 D = none := g25.keepF D (by rw [hD2]; simp) nF2 fD2
              have nO5 : ¬ own σ4 ρ5 D := fun z => by
                rcases g25.own D z with z | z
                · exact nO2 z
                · rw [hD2] at z; cases z
              have nw : ∀ {ρ' : Rho}, ¬ own σ4 ρ' D → ¬ own (wipe σ w) (wipeR ρ' w) D := fun {ρ'} h ⟨j, d, h1, h2⟩ => by
                obtain ⟨c, q⟩ := isOw_wipe h1
                rw [← eσ, wipe_out c] at h2
                exact h ⟨j, d, q, h2⟩
              cases b with
              | false =>
                rw [if_neg Bool.false_ne_true]
                exact ⟨F5, wipeR ρ5 w, acc, vs, go_wipe g15 eσ, hD5, rl.mono g25.mono, fD5, nw nO5, hc2⟩
              | true =>
                rw [if_pos rfl]
                dsimp only at hc2
                refine ⟨F5, ρ5, g5.ok, ?_⟩
                cases re : ev W e ρ5 with
                | bad => rw [re] at hc2; cases hc2
                | exc c d ρ' => rw [re] at hc2; cases hc2
                | ok pe =>
                  obtain ⟨r6, ρ6⟩ := pe
                  rw [re] at hc2
                  dsimp only at hc2
                  intro v F6' H6 g6' rr
                  obtain ⟨F6, g6, m6, rep6⟩ := freeze g5.ok g6' rr
                  have g26 := g25.trans g2.ok g6
                  have g16 := g2.trans okw g26
                  have hD6 : H6 D = some (.lst vs) := g26.keep D _ hD2 nO2
                  have fD6 : F6 D = none := g26.keepF D (by rw [hD2]; simp) nF2 fD2
                  have nO6 : ¬ own σ4 ρ6 D := fun z => by
                    rcases g26.own D z with z | z
                    · exact nO2 z
                    · rw [hD2] at z; cases z
                  split at hc2
                  · rename_i hlt
                    have hlen : vs.length < sizeLine := by rw [rl.len]; exact of_decide_eq_true hlt
                    exact ⟨vs, hD6, hlen, F6, wipeR ρ6 w, acc ++ [r6.d], vs ++ [v], go_app (go_wipe g16 eσ) hD hD6 fD6 (nw nO6), upd_same, (rl.mono g26.mono).append (RepL.one rep6), fD6, nw nO6, hc2⟩
                  · cases hc2
variable {elt tg iter : Expr} {ifs : List Expr} {scope : Scope} {own : List (Str × Nat)} {pos spos : Pos} {t : T} {it' : Dp.It} {cs' : List E} {e' : E}
theorem c_lc (hc : X.calm = true) (hN : X.N.Nodup) (hi : PI X tg iter (rdIF G Wx (evI W it'))) (ok : BlkOk X.N X.env.scope scope own)
    (hg : ∀ (s : Shared) (H : Hp) (C : Addr) (cl : List (Str × Addr)) (fp : List Addr), PG (X.blk s H scope (compEnvC scope cl C X.env) fp) tg (rdG G t)) (ht : ∀ (s : Shared) (H : Hp) (C : Addr) (cl : List (Str × Addr)) (fp : List Addr), PTs (X.blk s H scope (compEnvC scope cl C X.env) fp) ifs (rdTF G W0 (evT W cs')))
    (he : ∀ (s : Shared) (H : Hp) (C : Addr) (cl : List (Str × Addr)) (fp : List Addr), PE (X.blk s H scope (compEnvC scope cl C X.env) fp) elt (rdE G W W0 e')) (hn : ∀ j, hasT t j = true → j ∈ own.map (·.2)) (hs : ∀ x, foldedSetIterable iter X.env x = pure x := by intro _; rfl) :
    PE X (.ListComp elt [⟨tg, iter, ifs, 0⟩] scope pos) (rdE G W Wx (.comp (own.map (·.2)) t it' cs' e')) :=
  pe_imp (pe_lc hc hN hi ok hg ht he hs) fun σ H Q q => lc_of hn q
/-- name = [..] on one line: stored before the block is left -/
theorem s_setLc {i : Nat} {y : Str} {py : Pos} (hc : X.calm = true) (hN : X.N.Nodup) (hy : X.N[i]? = some y) (hyl : X.env.scope.names.lookup y = some .local)
    (hsw : swapsWith (.ListComp elt [⟨tg, iter, ifs, 0⟩] scope pos) (some (.Name y py)) spos.line X.env = pure true) (hi : PI X tg iter (rdIF G Wx (evI W it'))) (ok : BlkOk X.N X.env.scope scope own)
    (hg : ∀ (s : Shared) (H : Hp) (C : Addr) (cl : List (Str × Addr)) (fp : List Addr), PG (X.blk s H scope (compEnvC scope cl C X.env) fp) tg (rdG G t)) (ht : ∀ (s : Shared) (H : Hp) (C : Addr) (cl : List (Str × Addr)) (fp : List Addr), PTs (X.blk s H scope (compEnvC scope cl C X.env) fp) ifs (rdTF G W0 (evT W cs')))
    (he : ∀ (s : Shared) (H : Hp) (C : Addr) (cl : List (Str × Addr)) (fp : List Addr), PE (X.blk s H scope (compEnvC scope cl C X.env) fp) elt (rdE G W W0 e')) (hn : ∀ j, hasT t j = true → j ∈ own.map (·.2)) (hs : ∀ x, foldedSetIterable iter X.env x = pure x := by intro _; rfl) :
    PS X (.Assign [.Name y py] (.ListComp elt [⟨tg, iter, ifs, 0⟩] scope pos) spos) (rdS G W Wx (.set i (.comp (own.map (·.2)) t it' cs' e'))) := by
  refine ps_imp (ps_setLc hc hN hy hyl hsw hi ok hg ht he hs) fun D σ H ⟨F, ρ, ok, q⟩ => ?_
  refine lc_of (Wx := Wx) hn ?_
  refine to_then0 (k := fun r ρ1 => XR.opt .nx (setR ρ1 i r.slot)) ok q fun v F1 H1 ρ1 r g rr q1 => ?_
  obtain ⟨ρ2, e2, q2⟩ := opt_then q1
  exact q2 F1 H1 _ (go_set g (slot_of rr) e2)
end
end Dp
/-! A call, seen by plain values. -/
namespace Dp
open PySem PySem.Spec PyProof.Rows L2

def AVRep (G : Gx) (F : Hp) (σ : St) (v : V) : AV → Prop
  | .sh r => Rep G F r.d v
  | .io i => σ[i]? = some (some v)
/-- arguments as they stand: shared values are frozen -/
def shOnly : AV → Prop
  | .sh (.sh _) => True | .sh (.fr _) => False | .io _ => True
inductive AVReps (G : Gx) (F : Hp) (σ : St) : List V → List AV → Prop
  | nil : AVReps G F σ [] []
  | cons {v : V} {a : AV} {vs : List V} {as : List AV} (h : AVRep G F σ v a) (s : shOnly a) (r : AVReps G F σ vs as) : AVReps G F σ (v :: vs) (a :: as)
section
variable {G : Gx} {F F1 F' H H1 H' : Hp} {σ σ' : St} {ρ ρ' ρ2 : Rho}
theorem AVReps.len {vs : List V} {as : List AV} (h : AVReps G F σ vs as) : vs.length = as.length := by
  induction h with
  | nil => rfl
  | cons _ _ _ ih => simp [ih]
theorem AVReps.mono {vs : List V} {as : List AV} (m : Same F F') (h : AVReps G F σ vs as) : AVReps G F' σ vs as := by
  induction h with
  | nil => exact .nil
  | @cons v a vs as h s r ih =>
    refine .cons ?_ s ih
    cases a with
    | sh r => exact Rep.mono m h
    | io i => exact h
theorem AVReps.get {vs : List V} {as : List AV} (h : AVReps G F σ vs as) : ∀ {t : Nat} {a : AV}, as[t]? = some a → ∃ v, vs[t]? = some v ∧ AVRep G F σ v a ∧ shOnly a := by
  induction h with
  | nil => intro t a e; simp at e
  | @cons v a vs as h s r ih =>
    intro t b e
    cases t with
    | zero => simp at e; subst e; exact ⟨v, rfl, h, s⟩
    | succ t => simpa using ih (by simpa using e)
theorem avSlots_get : ∀ {as : List AV} {ss : Rho}, avSlots ρ as = some ss → ss.length = as.length ∧ ∀ (t : Nat) (a : AV), as[t]? = some a → match a with
    | .sh r => ss[t]? = some r.slot
    | .io j => ∃ d, isOw ρ j d ∧ ss[t]? = some (.io d)
  | [], ss, h => by cases h; exact ⟨rfl, fun t a e => by simp at e⟩
  | .sh r :: as, ss, h => by
    have h' : (avSlots ρ as).map (r.slot :: ·) = some ss := h
    cases e1 : avSlots ρ as with
    | none => rw [e1] at h'; cases h'
    | some ss' =>
      rw [e1] at h'; cases h'
      obtain ⟨l, k⟩ := avSlots_get e1
      refine ⟨by simp [l], fun t a e => ?_⟩
      cases t with
      | zero => simp at e; subst e; rfl
      | succ t => simpa using k t a (by simpa using e)
  | .io j :: as, ss, h => by
    have key : ∀ d, isOw ρ j d → (avSlots ρ as).map (Slot.io d :: ·) = some ss → ss.length = (AV.io j :: as).length ∧ ∀ (t : Nat) (a : AV), (AV.io j :: as)[t]? = some a → match a with
        | .sh r => ss[t]? = some r.slot
        | .io j => ∃ d, isOw ρ j d ∧ ss[t]? = some (.io d) := fun d hd h' => by
      cases e1 : avSlots ρ as with
      | none => rw [e1] at h'; cases h'
      | some ss' =>
        rw [e1] at h'; cases h'
        obtain ⟨l, k⟩ := avSlots_get e1
        refine ⟨by simp [l], fun t a e => ?_⟩
        cases t with
        | zero => simp at e; subst e; exact ⟨d, hd, rfl⟩
        | succ t => simpa using k t a (by simpa using e)
    unfold avSlots at h
    cases e0 : ρ[j]? with
    | none => rw [e0] at h; cases h
    | some s =>
      rw [e0] at h
      cases s with
      | no => cases h
      | sh d => cases h
      | ow d => exact key d (.inl e0) h
      | io d => exact key d (.inr e0) h
theorem noDup_tail {a : AV} {as : List AV} (h : noDup (a :: as) = true) : noDup as = true ∧ ∀ i, a = .io i → AV.io i ∉ as := by
  cases a with
  | sh r => exact ⟨h, fun i e => by cases e⟩
  | io i =>
    have h' : (!(as.any fun | .io j => i == j | _ => false) && noDup as) = true := h
    rw [Bool.and_eq_true] at h'
    refine ⟨h'.2, fun j e m => ?_⟩
    cases e
    have h1 := h'.1
    rw [Bool.not_eq_true', List.any_eq_false] at h1
    exact h1 _ m (by simp)
theorem avBack_get : ∀ {as : List AV} {fin ρ ρ2 : Rho}, noDup as = true → avBack ρ as fin = some ρ2 → ρ2.length = ρ.length ∧ (∀ (j : Nat), AV.io j ∉ as → ρ2[j]? = ρ[j]?) ∧
    ∀ (t j : Nat), as[t]? = some (.io j) → ∃ d', fin[t]? = some (.io d') ∧ ((∃ d, ρ[j]? = some (.ow d)) ∧ ρ2[j]? = some (.ow d') ∨ (∃ d, ρ[j]? = some (.io d)) ∧ ρ2[j]? = some (.io d'))
  | [], _, ρ, ρ2, _, h => by
    have h' : some ρ = some ρ2 := by unfold avBack at h; exact h
    cases h'
    exact ⟨rfl, fun _ _ => rfl, fun t j e => by simp at e⟩
  | .sh r :: as, [], ρ, ρ2, _, h => by cases h
  | .sh r :: as, s :: fin, ρ, ρ2, nd, h => by
    have h' : avBack ρ as fin = some ρ2 := h
    obtain ⟨l, k1, k2⟩ := avBack_get (noDup_tail nd).1 h'
    refine ⟨l, fun j hj => k1 j fun m => hj (List.mem_cons_of_mem _ m), fun t j e => ?_⟩
    cases t with
    | zero => simp at e
    | succ t => simpa using k2 t j (by simpa using e)
  | .io i :: as, [], ρ, ρ2, _, h => by cases h
  | .io i :: as, s :: fin, ρ, ρ2, nd, h => by
    obtain ⟨nd', hni⟩ := noDup_tail nd
    have ni : AV.io i ∉ as := hni i rfl
    cases s with
    | no => cases h
    | sh d => cases h
    | ow d => cases h
    | io d' =>
      have step : ∀ s', (∃ d, ρ[i]? = some (.ow d)) ∧ s' = .ow d' ∨ (∃ d, ρ[i]? = some (.io d)) ∧ s' = .io d' → avBack (ρ.set i s') as fin = some ρ2 → ρ2.length = ρ.length ∧ (∀ (j : Nat), AV.io j ∉ AV.io i :: as → ρ2[j]? = ρ[j]?) ∧
          ∀ (t j : Nat), (AV.io i :: as)[t]? = some (.io j) → ∃ d'', (Slot.io d' :: fin)[t]? = some (.io d'') ∧ ((∃ d, ρ[j]? = some (.ow d)) ∧ ρ2[j]? = some (.ow d'') ∨ (∃ d, ρ[j]? = some (.io d)) ∧ ρ2[j]? = some (.io d'')) := fun s' hs h' => by
        have hi : i < ρ.length := by rcases hs with ⟨⟨d, e⟩, _⟩ | ⟨⟨d, e⟩, _⟩ <;> exact (List.getElem?_eq_some_iff.mp e).1
        obtain ⟨l, k1, k2⟩ := avBack_get nd' h'
        refine ⟨by rw [l, List.length_set], fun j hj => ?_, fun t j e => ?_⟩
        · have hji : i ≠ j := fun z => hj (by rw [z]; exact List.mem_cons_self)
          rw [k1 j fun m => hj (List.mem_cons_of_mem _ m), List.getElem?_set_ne hji]
        · cases t with
          | zero =>
            simp at e
            subst e
            refine ⟨d', rfl, ?_⟩
            rw [k1 i ni, List.getElem?_set_self hi]
            rcases hs with ⟨h1, rfl⟩ | ⟨h1, rfl⟩
            · exact .inl ⟨h1, rfl⟩
            · exact .inr ⟨h1, rfl⟩
          | succ t =>
            have e' : as[t]? = some (.io j) := by simpa using e
            have hji : i ≠ j := fun z => ni (by rw [z]; exact List.mem_of_getElem? e')
            obtain ⟨d'', h1, h2⟩ := k2 t j e'
            rw [List.getElem?_set_ne hji] at h2
            exact ⟨d'', by simpa using h1, h2⟩
      unfold avBack at h
      cases e0 : ρ[i]? with
      | none => rw [e0] at h; cases h
      | some s =>
        rw [e0] at h
        cases s with
        | no => cases h
        | sh d => cases h
        | ow d => exact step (.ow d') (.inl ⟨⟨d, e0⟩, rfl⟩) h
        | io d => exact step (.io d') (.inr ⟨⟨d, e0⟩, rfl⟩) h
theorem avLost_get : ∀ {as : List AV} {ρ ρ2 : Rho}, noDup as = true → avLost ρ as = some ρ2 → ρ2.length = ρ.length ∧ (∀ (j : Nat), AV.io j ∉ as → ρ2[j]? = ρ[j]?) ∧ ∀ (j : Nat), AV.io j ∈ as → ρ2[j]? = some .no ∧ ∃ d, ρ[j]? = some (.ow d)
  | [], ρ, ρ2, _, h => by
    have h' : some ρ = some ρ2 := h
    cases h'
    exact ⟨rfl, fun _ _ => rfl, fun j m => by simp at m⟩
  | .sh r :: as, ρ, ρ2, nd, h => by
    have h' : avLost ρ as = some ρ2 := h
    obtain ⟨l, k1, k2⟩ := avLost_get (noDup_tail nd).1 h'
    refine ⟨l, fun j hj => k1 j fun m => hj (List.mem_cons_of_mem _ m), fun j m => ?_⟩
    rcases List.mem_cons.mp m with z | z
    · cases z
    · exact k2 j z
  | .io i :: as, ρ, ρ2, nd, h => by
    obtain ⟨nd', hni⟩ := noDup_tail nd
    have ni : AV.io i ∉ as := hni i rfl
    unfold avLost at h
    cases e0 : ρ[i]? with
    | none => rw [e0] at h; cases h
    | some s =>
      rw [e0] at h
      cases s with
      | no => cases h
      | sh d => cases h
      | io d => cases h
      | ow d =>
        have h' : avLost (ρ.set i .no) as = some ρ2 := h
        have hi : i < ρ.length := (List.getElem?_eq_some_iff.mp e0).1
        obtain ⟨l, k1, k2⟩ := avLost_get nd' h'
        refine ⟨by rw [l, List.length_set], fun j hj => ?_, fun j m => ?_⟩
        · have hji : i ≠ j := fun z => hj (by rw [z]; exact List.mem_cons_self)
          rw [k1 j fun m => hj (List.mem_cons_of_mem _ m), List.getElem?_set_ne hji]
        · rcases List.mem_cons.mp m with z | z
          · cases z
            exact ⟨by rw [k1 _ ni, List.getElem?_set_self hi], d, e0⟩
          · have hji : i ≠ j := fun q => ni (by rw [q]; exact z)
            obtain ⟨h1, h2⟩ := k2 j z
            rw [List.getElem?_set_ne hji] at h2
            exact ⟨h1, h2⟩

/-- one place: which argument a lent object is -/
theorem io_once : ∀ {as : List AV} {t u j : Nat}, noDup as = true → as[t]? = some (.io j) → as[u]? = some (.io j) → t = u
  | [], _, _, _, _, h, _ => by simp at h
  | a :: as, 0, 0, _, _, _, _ => rfl
  | a :: as, 0, u + 1, j, nd, h1, h2 => by
    simp at h1
    exact absurd (List.mem_of_getElem? (show as[u]? = some (.io j) by simpa using h2)) ((noDup_tail nd).2 j h1)
  | a :: as, t + 1, 0, j, nd, h1, h2 => by
    simp at h2
    exact absurd (List.mem_of_getElem? (show as[t]? = some (.io j) by simpa using h1)) ((noDup_tail nd).2 j h2)
  | a :: as, t + 1, u + 1, j, nd, h1, h2 => congrArg (· + 1) (io_once (as := as) (t := t) (u := u) (j := j) (noDup_tail nd).1 (by simpa using h1) (by simpa using h2))

section
variable {as : List AV} {vs : List V} {ss : Rho}
/-- what the callee holds -/
theorem callee_slot (r : AVReps G F σ vs as) (e : avSlots ρ as = some ss) {t : Nat} {d : D} (h : isOw ss t d) : ∃ j v, as[t]? = some (.io j) ∧ isOw ρ j d ∧ vs[t]? = some v ∧ σ[j]? = some (some v) := by
  obtain ⟨l, k⟩ := avSlots_get e
  have ht : t < as.length := by
    rw [← l]
    rcases h with h | h <;> exact (List.getElem?_eq_some_iff.mp h).1
  have ea := List.getElem?_eq_getElem ht
  have kk := k t _ ea
  obtain ⟨v, h1, h2, h3⟩ := r.get ea
  cases hA : as[t] with
  | sh x =>
    rw [hA] at kk h3
    cases x with
    | fr d => exact h3.elim
    | sh d' =>
      have kk' : ss[t]? = some (.sh d') := kk
      rcases h with h | h <;> (rw [kk'] at h; cases h)
  | io j =>
    rw [hA] at kk h2 ea
    obtain ⟨d', h4, h5⟩ := kk
    have : d' = d := by rcases h with h | h <;> (rw [h5] at h; cases h) <;> rfl
    subst this
    exact ⟨j, v, ea, h4, h1, h2⟩
theorem callee_ok (ok : Ok G F H σ ρ) (nd : noDup as = true) (r : AVReps G F σ vs as) (e : avSlots ρ as = some ss) : Ok G F H (vs.map some) ss := by
  obtain ⟨l, k⟩ := avSlots_get e
  refine ⟨(List.length_map _).trans (r.len.trans l.symm), ok.le, fun t d h => ?_, fun t d h => ?_, fun t u d1 d2 a htu h1 h2 h3 h4 => ?_, ok.dct⟩
  · have ht : t < as.length := by rw [← l]; exact (List.getElem?_eq_some_iff.mp h).1
    have ea := List.getElem?_eq_getElem ht
    have kk := k t _ ea
    obtain ⟨v, h1, h2, h3⟩ := r.get ea
    refine ⟨v, by rw [List.getElem?_map, h1]; rfl, ?_⟩
    cases hA : as[t] with
    | sh x =>
      rw [hA] at kk h2
      have kk' : ss[t]? = some x.slot := kk
      rw [h] at kk'
      cases x with
      | fr d' => cases kk'
      | sh d' => cases kk'; exact h2
    | io j =>
      rw [hA] at kk
      obtain ⟨d', _, h5⟩ := kk
      rw [h] at h5; cases h5
  · obtain ⟨j, v, h1, h2, h3, h4⟩ := callee_slot r e h
    obtain ⟨a, h5, h6⟩ := ok.ow j d h2
    rw [h4] at h5; cases h5
    exact ⟨a, by rw [List.getElem?_map, h3]; rfl, h6⟩
  · obtain ⟨j1, v1, p1, p2, p3, p4⟩ := callee_slot r e h1
    obtain ⟨j2, v2, q1, q2, q3, q4⟩ := callee_slot r e h2
    rw [List.getElem?_map, p3] at h3
    cases h3
    rw [List.getElem?_map, q3] at h4
    cases h4
    have hj : j1 ≠ j2 := fun z => by subst z; exact htu (io_once nd p1 q1)
    exact ok.nd j1 j2 d1 d2 a hj p2 q2 p4 q4
/-- what the callee owns is lent -/
theorem callee_own (r : AVReps G F σ vs as) (e : avSlots ρ as = some ss) {a : Addr} (h : own (vs.map some) ss a) : ∃ (t j : Nat) (d : D), as[t]? = some (.io j) ∧ isOw ρ j d ∧ σ[j]? = some (some (.ref a)) ∧ vs[t]? = some (.ref a) := by
  obtain ⟨t, d, h1, h2⟩ := h
  obtain ⟨j, v, p1, p2, p3, p4⟩ := callee_slot r e h1
  rw [List.getElem?_map, p3] at h2
  cases h2
  exact ⟨t, j, d, p1, p2, p4, p3⟩
theorem callee_own' (r : AVReps G F σ vs as) (e : avSlots ρ as = some ss) {a : Addr} (h : own (vs.map some) ss a) : own σ ρ a := by
  obtain ⟨t, j, d, _, h2, h3, _⟩ := callee_own r e h
  exact ⟨j, d, h2, h3⟩
theorem callee_foot (r : AVReps G F σ vs as) (e : avSlots ρ as = some ss) {a : Addr} (h : foot H (vs.map some) ss a) : foot H σ ρ a := by
  rcases h with h | ⟨b, hb, h⟩
  · exact .inl (callee_own' r e h)
  · exact .inr ⟨b, hb, callee_own' r e h⟩
/-- an own object that is not lent stays -/
theorem unlent (ok : Ok G F H σ ρ) (nd : noDup as = true) (r : AVReps G F σ vs as) (e : avSlots ρ as = some ss) (g : Go G F H (vs.map some) ss F' H' σ' ρ') {j : Nat} {d : D} {a : Addr} (hj : AV.io j ∉ as) (hd : isOw ρ j d) (ha : σ[j]? = some (some (.ref a))) (o : Own G F H d a) : Own G F' H' d a := by
  have na : ¬ own (vs.map some) ss a := fun z => by
    obtain ⟨t, i, d', p1, p2, p3, _⟩ := callee_own r e z
    have hij : i ≠ j := fun q => by subst q; exact hj (List.mem_of_getElem? p1)
    exact ok.nd i j d' d a hij p2 hd p3 ha
  have nf : ¬ foot H (vs.map some) ss a := fun z => by
    rcases z with z | ⟨b, hb, _⟩
    · exact na z
    · exact o.notOwn hb
  refine o.keep g.mono (g.keepF a o.there nf o.1) (fun u hu => g.keep a u hu na) fun dx hx => ?_
  have nx : ¬ own (vs.map some) ss dx := fun z => by
    obtain ⟨t, i, d', p1, p2, p3, _⟩ := callee_own r e z
    obtain ⟨b, q1, q2⟩ := ok.ow i d' p2
    rw [p3] at q1; cases q1
    exact q2.notOwn hx
  refine ⟨g.keep dx _ hx nx, fun fx => g.keepF dx (by rw [hx]; simp) (fun z => ?_) fx⟩
  rcases z with z | ⟨b, hb, z⟩
  · exact nx z
  · rw [hx] at hb; cases hb
    exact na z
theorem go_back (ok : Ok G F H σ ρ) (nd : noDup as = true) (r : AVReps G F σ vs as) (e : avSlots ρ as = some ss) (g : Go G F H (vs.map some) ss F' H' σ' ρ') {fin : Rho} (hf : ∀ (t : Nat) (d : D), fin[t]? = some (.io d) → ρ'[t]? = some (.io d)) (eb : avBack ρ as fin = some ρ2) :
    Go G F H σ ρ F' H' σ ρ2 ∧ ∀ a, own σ ρ2 a → own σ' ρ' a ∨ (own σ ρ a ∧ ¬ own (vs.map some) ss a) := by
  obtain ⟨l2, k1, k2⟩ := avBack_get nd eb
  obtain ⟨ls, ks⟩ := avSlots_get e
  -- a lent object behind the call
  have lent : ∀ {t j : Nat}, as[t]? = some (.io j) → ∃ (d' : D) (a : Addr), fin[t]? = some (.io d') ∧ ((∃ d, ρ[j]? = some (.ow d)) ∧ ρ2[j]? = some (.ow d') ∨ (∃ d, ρ[j]? = some (.io d)) ∧ ρ2[j]? = some (.io d')) ∧ σ[j]? = some (some (.ref a)) ∧ σ'[t]? = some (some (.ref a)) ∧ Own G F' H' d' a := fun {t j} ht => by
    obtain ⟨d', h1, h2⟩ := k2 t j ht
    obtain ⟨v, v1, v2, _⟩ := r.get ht
    have hρ' := hf t d' h1
    obtain ⟨a, a1, a2⟩ := g.ok.ow t d' (.inr hρ')
    obtain ⟨d0, _, hs⟩ := ks t _ ht
    obtain ⟨_, es⟩ := g.io t d0 hs
    rw [es, List.getElem?_map, v1] at a1
    cases a1
    exact ⟨d', a, h1, h2, v2, by rw [es, List.getElem?_map, v1]; rfl, a2⟩
  have owEx : ∀ {j : Nat} {d : D}, isOw ρ2 j d → (AV.io j ∉ as ∧ isOw ρ j d) ∨ ∃ (t : Nat) (d0 : D), as[t]? = some (.io j) ∧ isOw ρ j d0 := fun {j d} h => by
    by_cases c : AV.io j ∈ as
    · obtain ⟨t, ht⟩ := List.getElem?_of_mem c
      obtain ⟨d', a, _, h2, _⟩ := lent ht
      rcases h2 with ⟨⟨d0, h0⟩, _⟩ | ⟨⟨d0, h0⟩, _⟩
      · exact .inr ⟨t, d0, ht, .inl h0⟩
      · exact .inr ⟨t, d0, ht, .inr h0⟩
    · unfold isOw at h ⊢
      rw [k1 j c] at h
      exact .inl ⟨c, h⟩
  have owOld : ∀ {j : Nat} {d : D}, isOw ρ2 j d → ∃ d0, isOw ρ j d0 := fun h => by
    rcases owEx h with ⟨_, h⟩ | ⟨_, d0, _, h⟩
    · exact ⟨_, h⟩
    · exact ⟨d0, h⟩
  refine ⟨⟨⟨by rw [l2]; exact ok.len, g.ok.le, fun j d h => ?_, fun j d h => ?_, fun j k d1 d2 a hjk h1 h2 h3 h4 => ?_, g.ok.dct⟩, g.mono, fun a o h n => g.keep a o h fun z => n (callee_own' r e z), fun a h n => g.keepF a h fun z => n (callee_foot r e z), g.there, g.shape, fun a ⟨j, d, h1, h2⟩ => ?_, fun j d h => ?_⟩, fun a ⟨j, d, h1, h2⟩ => ?_⟩
  · by_cases c : AV.io j ∈ as
    · obtain ⟨t, ht⟩ := List.getElem?_of_mem c
      obtain ⟨d', a, _, h2, _⟩ := lent ht
      rcases h2 with ⟨_, h2⟩ | ⟨_, h2⟩ <;> (rw [h] at h2; cases h2)
    · rw [k1 j c] at h
      obtain ⟨v, h1, h2⟩ := ok.sh j d h
      exact ⟨v, h1, h2.mono g.mono⟩
  · by_cases c : AV.io j ∈ as
    · obtain ⟨t, ht⟩ := List.getElem?_of_mem c
      obtain ⟨d', a, _, h2, h3, _, h4⟩ := lent ht
      have : d' = d := by rcases h2 with ⟨_, h2⟩ | ⟨_, h2⟩ <;> rcases h with h | h <;> (rw [h] at h2; cases h2) <;> rfl
      subst this
      exact ⟨a, h3, h4⟩
    · unfold isOw at h
      rw [k1 j c] at h
      obtain ⟨a, h1, h2⟩ := ok.ow j d h
      exact ⟨a, h1, unlent ok nd r e g c h h1 h2⟩
  · obtain ⟨e1, q1⟩ := owOld h1
    obtain ⟨e2, q2⟩ := owOld h2
    exact ok.nd j k e1 e2 a hjk q1 q2 h3 h4
  · obtain ⟨d0, q⟩ := owOld h1
    exact .inl ⟨j, d0, q, h2⟩
  · by_cases c : AV.io j ∈ as
    · obtain ⟨t, ht⟩ := List.getElem?_of_mem c
      obtain ⟨d', a, _, h2, _⟩ := lent ht
      rcases h2 with ⟨⟨d0, h0⟩, _⟩ | ⟨_, h2⟩
      · rw [h] at h0; cases h0
      · exact ⟨⟨d', h2⟩, rfl⟩
    · exact ⟨⟨d, by rw [k1 j c]; exact h⟩, rfl⟩
  · rcases owEx h1 with ⟨c, q⟩ | ⟨t, d0, ht, q⟩
    · refine .inr ⟨⟨j, d, q, h2⟩, fun z => ?_⟩
      obtain ⟨t, i, d', p1, p2, p3, _⟩ := callee_own r e z
      have hij : i ≠ j := fun q => by subst q; exact c (List.mem_of_getElem? p1)
      exact ok.nd i j d' d a hij p2 q p3 h2
    · obtain ⟨d', b, f1, f2, f3, f4, _⟩ := lent ht
      rw [h2] at f3; cases f3
      exact .inl ⟨t, d', .inr (hf t d' f1), f4⟩
/-- the result, seen by the caller -/
theorem res_back (ok : Ok G F H σ ρ) (nd : noDup as = true) (r : AVReps G F σ vs as) (e : avSlots ρ as = some ss) (g : Go G F H (vs.map some) ss F' H' σ' ρ') {fin : Rho} (hf : ∀ (t : Nat) (d : D), fin[t]? = some (.io d) → ρ'[t]? = some (.io d)) (eb : avBack ρ as fin = some ρ2)
    {v : V} {x : Res} (h : ResRep G H (vs.map some) ss F' H' σ' ρ' v x) : ResRep G H σ ρ F' H' σ ρ2 v x := by
  cases x with
  | sh d => exact h
  | fr d =>
    obtain ⟨a, rfl, o, n, z⟩ := h
    refine ⟨a, rfl, o, fun q => ?_, z.imp id (callee_own' r e)⟩
    rcases (go_back ok nd r e g hf eb).2 a q with q | ⟨q, nq⟩
    · exact n q
    · rcases z with z | z
      · obtain ⟨j, d0, p1, p2⟩ := q
        obtain ⟨b, p3, p4⟩ := ok.ow j d0 p1
        rw [p2] at p3; cases p3
        exact p4.there z
      · exact nq z
/-- where the call raises -/
theorem go_lost (ok : Ok G F H σ ρ) (nd : noDup as = true) (r : AVReps G F σ vs as) (e : avSlots ρ as = some ss) (g : Go G F H (vs.map some) ss F' H' σ' ρ') (eb : avLost ρ as = some ρ2) : Go G F H σ ρ F' H' σ ρ2 := by
  obtain ⟨l2, k1, k2⟩ := avLost_get nd eb
  have owEx : ∀ {j : Nat} {d : D}, isOw ρ2 j d → AV.io j ∉ as ∧ isOw ρ j d := fun {j d} h => by
    have c : AV.io j ∉ as := fun c => by
      have q := (k2 j c).1
      rcases h with h | h <;> (rw [q] at h; cases h)
    unfold isOw at h ⊢
    rw [k1 j c] at h
    exact ⟨c, h⟩
  refine ⟨⟨by rw [l2]; exact ok.len, g.ok.le, fun j d h => ?_, fun j d h => ?_, fun j k d1 d2 a hjk h1 h2 h3 h4 => ?_, g.ok.dct⟩, g.mono, fun a o h n => g.keep a o h fun z => n (callee_own' r e z), fun a h n => g.keepF a h fun z => n (callee_foot r e z), g.there, g.shape, fun a ⟨j, d, h1, h2⟩ => ?_, fun j d h => ?_⟩
  · have c : AV.io j ∉ as := fun c => by
      have q := (k2 j c).1
      rw [q] at h; cases h
    rw [k1 j c] at h
    obtain ⟨v, h1, h2⟩ := ok.sh j d h
    exact ⟨v, h1, h2.mono g.mono⟩
  · obtain ⟨c, q⟩ := owEx h
    obtain ⟨a, h1, h2⟩ := ok.ow j d q
    exact ⟨a, h1, unlent ok nd r e g c q h1 h2⟩
  · exact ok.nd j k d1 d2 a hjk (owEx h1).2 (owEx h2).2 h3 h4
  · exact .inl ⟨j, d, (owEx h1).2, h2⟩
  · have c : AV.io j ∉ as := fun c => by
      obtain ⟨_, d', q⟩ := k2 j c
      rw [h] at q; cases q
    exact ⟨⟨d, by rw [k1 j c]; exact h⟩, rfl⟩
end
end
end Dp
/-! Calls of defs, methods, classes. -/
namespace Dp
open PySem PySem.Spec PyProof.Rows L2

/-! ### room, with nothing guarded -/
structure RoomG (k : Nat) (A : Around) : Prop where
  rm : Room k A
  gu : A.guards = some []
theorem RoomG.mono {j k : Nat} {A : Around} (r : RoomG k A) (h : j ≤ k) : RoomG j A := ⟨r.rm.mono h, r.gu⟩
theorem RoomG.deeper {k : Nat} {A : Around} (r : RoomG (k + 1) A) (env : Env) : RoomG k (A.deeper env) := ⟨r.rm.deeper env, r.gu⟩
theorem RoomG.make {k : Nat} {A : Around} (r : RoomG (k + 1) A) (C : Addr) (us : List Value) (kw : List (Str × Value)) : RoomG k (A.under (.builtin "type.__call__" ⟨.ref C :: us, kw⟩)) := ⟨r.rm.make C us kw, by
  have := r.gu
  simp [Around.under, pushGuards, Code.guards, Code.isGuard, guardIds, this]⟩

/-! ### promises -/
/-- what a call of the f-th def is to give, by plain values -/
def spI (G : Gx) (cf : CallFn) (f : Nat) : Sp := fun vs H Q E => ∃ F ρa, Ok G F H (vs.map some) ρa ∧ match cf f ρa with
  | .ok r fin => ∀ v F' H' σ' ρ', Go G F H (vs.map some) ρa F' H' σ' ρ' → (∀ (t : Nat) (d : D), fin[t]? = some (.io d) → ρ'[t]? = some (.io d)) → ResRep G H (vs.map some) ρa F' H' σ' ρ' v r → Q v H'
  | .exc c d => ∀ F' H' σ' ρ' dd u, Go G F H (vs.map some) ρa F' H' σ' ρ' → excAt F' dd u → Rep G F' d u → E (.ref (G.cls c)) (some dd) H'
  | .bad => False
structure FnD (P : Program) (w : World) (K : PySem.W.Frag) (mg : Str → Option Value) (base : Heap) (G : Gx) (cf : CallFn) (k : Nat) (f : Nat) (fa : Addr) (fd : FuncData) (ps : List Str) : Prop where
  len : ∀ vs H Q E, spI G cf f vs H Q E → vs.length = ps.length
  run : ∀ (A : Around) (outer : List Env) (s : Shared) (H : Hp) (args : Args) (us : List Value) (vs : List V) (Q : VK) (E : XK), RoomG k A → Env0 P w K mg base A outer s H → BindsTo s fd args (ps.zip us) → Vals vs us → spI G cf f vs H Q E →
    codeAny (model P w) A (.call (.ref fa) args) (L2.CR (L2.CX P w) outer P w H s Q E) s
theorem FnD.up {P : Program} {w : World} {K : PySem.W.Frag} {mg : Str → Option Value} {base : Heap} {G : Gx} {cf : CallFn} {j k f : Nat} {fa : Addr} {fd : FuncData} {ps : List Str} (F : FnD P w K mg base G cf j f fa fd ps) (h : j ≤ k) : FnD P w K mg base G cf k f fa fd ps :=
  ⟨F.len, fun A outer s H args us vs Q E hr => F.run A outer s H args us vs Q E (hr.mono h)⟩

/-! ### a def by its body -/
section
variable {G : Gx} {F F' H H' : Hp} {σ σ' : St} {ρ ρ' : Rho} {k m : Nat}
theorem isOw_pad {i : Nat} {d : D} (h : isOw (ρ ++ List.replicate m .no) i d) : isOw ρ i d := by
  unfold isOw at h ⊢
  by_cases c : i < ρ.length
  · rwa [List.getElem?_append_left c] at h
  · rw [List.getElem?_append_right (by omega), List.getElem?_replicate] at h
    split at h <;> rcases h with h | h <;> cases h
theorem isOw_lt {i : Nat} {d : D} (h : isOw ρ i d) : i < ρ.length := by rcases h with h | h <;> exact (List.getElem?_eq_some_iff.mp h).1
theorem own_pad (l : σ.length = ρ.length) {a : Addr} : own (σ ++ List.replicate m none) (ρ ++ List.replicate m .no) a ↔ own σ ρ a := by
  constructor
  · rintro ⟨i, d, h1, h2⟩
    have h1' := isOw_pad h1
    rw [List.getElem?_append_left (by rw [l]; exact isOw_lt h1')] at h2
    exact ⟨i, d, h1', h2⟩
  · rintro ⟨i, d, h1, h2⟩
    have c := isOw_lt h1
    refine ⟨i, d, ?_, by rw [List.getElem?_append_left (by rw [l]; exact c)]; exact h2⟩
    unfold isOw at h1 ⊢
    rwa [List.getElem?_append_left c]
theorem ok_pad (ok : Ok G F H σ ρ) (m : Nat) : Ok G F H (σ ++ List.replicate m none) (ρ ++ List.replicate m .no) := by
  refine ⟨by simp [ok.len], ok.le, fun i d h => ?_, fun i d h => ?_, fun i j d1 d2 a hij h1 h2 h3 h4 => ?_, ok.dct⟩
  · have c : i < ρ.length := by
      by_cases c : i < ρ.length
      · exact c
      · rw [List.getElem?_append_right (by omega), List.getElem?_replicate] at h
        split at h <;> cases h
    rw [List.getElem?_append_left c] at h
    rw [List.getElem?_append_left (by rw [ok.len]; exact c)]
    exact ok.sh i d h
  · have h' := isOw_pad h
    rw [List.getElem?_append_left (by rw [ok.len]; exact isOw_lt h')]
    exact ok.ow i d h'
  · have q1 := isOw_pad h1
    have q2 := isOw_pad h2
    rw [List.getElem?_append_left (by rw [ok.len]; exact isOw_lt q1)] at h3
    rw [List.getElem?_append_left (by rw [ok.len]; exact isOw_lt q2)] at h4
    exact ok.nd i j d1 d2 a hij q1 q2 h3 h4
theorem go_unpad (l : σ.length = ρ.length) (g : Go G F H (σ ++ List.replicate m none) (ρ ++ List.replicate m .no) F' H' σ' ρ') : Go G F H σ ρ F' H' σ' ρ' := by
  refine ⟨g.ok, g.mono, fun a o h n => g.keep a o h fun z => n ((own_pad l).mp z), fun a h n => g.keepF a h fun z => n ?_, g.there, g.shape, fun a h => (g.own a h).imp (own_pad l).mp id, fun i d h => ?_⟩
  · rcases z with z | ⟨b, hb, z⟩
    · exact .inl ((own_pad l).mp z)
    · exact .inr ⟨b, hb, (own_pad l).mp z⟩
  · have c : i < ρ.length := (List.getElem?_eq_some_iff.mp h).1
    obtain ⟨h1, h2⟩ := g.io i d (by rw [List.getElem?_append_left c]; exact h)
    exact ⟨h1, by rw [h2, List.getElem?_append_left (by rw [l]; exact c)]⟩
theorem res_unpad (l : σ.length = ρ.length) {v : V} {r : Res} (h : ResRep G H (σ ++ List.replicate m none) (ρ ++ List.replicate m .no) F' H' σ' ρ' v r) : ResRep G H σ ρ F' H' σ' ρ' v r := by
  cases r with
  | sh d => exact h
  | fr d =>
    obtain ⟨a, e, o, n, z⟩ := h
    exact ⟨a, e, o, n, z.imp id (own_pad l).mp⟩
theorem keep_fin {n : Nat} {t : Nat} {d : D} (h : ((ρ.take n).map keepIo)[t]? = some (.io d)) : ρ[t]? = some (.io d) := by
  rw [List.getElem?_map] at h
  cases e : (ρ.take n)[t]? with
  | none => rw [e] at h; cases h
  | some s =>
    rw [e] at h
    rw [List.getElem?_take] at e
    split at e
    · rw [e]
      cases s with
      | no => cases h
      | sh d => cases h
      | ow d => cases h
      | io d' => exact h
    · cases e
end
theorem fnD_of {P : Program} {w : World} {K : PySem.W.Frag} {mg : Str → Option Value} {base : Heap} {G : Gx} {p : Pr} {n k f : Nat} {fa : Addr} {name qual : Str} {params : Arguments} {body : List Stmt} {scope : Scope} {dV kV doc pm cdv ct oc : Value} {an od : Option Addr}
    {osl : Array (Option Value)} {N ps : List Str} {df : Def} (lk : K.lookup fa = some ⟨oc, od, .func (PySem.W.fnOf name qual params body scope dV kV doc pm an cdv ct), osl⟩) (hcd : PySem.W.codeIn K cdv qual = true) (S : FnScope N ps scope)
    (hd : p.defs f = some df) (hnp : ps.length = df.np) (hns : N.length = df.ns)
    (hbody : ∀ (A : Around) (outer : List Env) (s : Shared) (H : Hp) (E : XK), RoomG k (A.deeper (envOfC qual scope s.heap.objs.size fa cdv)) →
      PSs (cxOf (L2.CX P w) P w K mg base N qual scope fa cdv A outer s H E) body (rdSs G (p.wd (callP p n)) (fun cls d _ H => E cls d H) df.body)) :
    FnD P w K mg base G (callP p (n + 1)) (k + 1) f fa (PySem.W.fnOf name qual params body scope dV kV doc pm an cdv ct) ps := by
  have unf : ∀ ρa, callP p (n + 1) f ρa = if ρa.length = df.np then
        (match exs (p.wd (callP p n)) df.body (ρa ++ List.replicate (df.ns - df.np) .no) with
        | .nx ρ => .ok (.sh .non) ((ρ.take df.np).map keepIo)
        | .rt r ρ => .ok r ((ρ.take df.np).map keepIo)
        | .exc c d _ => .exc c d
        | _ => .bad) else .bad := fun ρa => by
    show (match p.defs f with | none => CR.bad | some df => _) = _
    rw [hd]
    try rfl
  have len : ∀ vs H Q E, spI G (callP p (n + 1)) f vs H Q E → vs.length = ps.length := fun vs H Q E ⟨F, ρa, ok, q⟩ => by
    rw [unf] at q
    by_cases c : ρa.length = df.np
    · rw [hnp, ← c, ← ok.len, List.length_map]
    · rw [if_neg c] at q; exact q.elim
  refine ⟨len, fun A outer s H args us vs Q E hr e0 hb r hsp => ?_⟩
  have hl := len _ _ _ _ hsp
  have KX : K.In s.heap := e0.mod.kin.keeps fun b o e => (e0.bs b o e).1
  have lim : s.heap.NoLimit := e0.mod.nolimit.keeps fun b o e => (e0.bs b o e).1
  have kinds : ∀ y ∈ ps.zip us, scope.names.lookup y.1 = some .local ∨ (scope.names.lookup y.1 = some .cell ∧ ((cellsFrom (s.heap.objs.size + 1) scope.names []).lookup y.1).isSome = true) := fun ⟨nm, v⟩ hy =>
    (S.par nm (List.of_mem_zip hy).1).imp id fun q => ⟨q, PySem.W.cellsFrom_some _ _ _ (.inl q)⟩
  refine codeAny_call_function hr.rm.depth (KX _ _ lk) rfl S.co S.gen rfl (PySem.W.codeRec_of KX hcd) (hb _ _ _ _ (wpAny_newFunctionEnv_cells S.kind kinds fun env he s1 x => ?_))
  subst he
  refine ⟨lim.keeps x.toInCall.keep, codeAny_func ?_⟩
  obtain ⟨F, ρa, ok, q⟩ := hsp
  rw [unf] at q
  have c : ρa.length = df.np := by rw [← ok.len, List.length_map, hl, hnp]
  rw [if_pos c] at q
  have eN : L2.start N vs = vs.map some ++ List.replicate (df.ns - df.np) none := by unfold L2.start; rw [hns, hl, hnp]
  have I : Inv (cxOf (L2.CX P w) P w K mg base N qual scope fa cdv A outer s H E) [] (L2.start N vs) H s1 := inv_start S hr.rm.hd e0 hl r x
  have fin : ∀ {σ' : St} {H' : Hp} {v : V} {u : Value} {s' : Shared}, Inv (cxOf (L2.CX P w) P w K mg base N qual scope fa cdv A outer s H E) [] σ' H' s' → RelV v u → Q v H' → CE outer P w H s Q u s' :=
    fun J rv q => ⟨_, _, J.os, J.bare, J.base, J.hok, rv, q⟩
  refine wpAny_mono ((hbody A outer s H E (hr.deeper _)).run [] s1 (L2.start N vs) H { nx := fun _ H' => Q .non H', rt := Q } I ⟨F, ρa ++ List.replicate (df.ns - df.np) .no, by rw [eN]; exact ok_pad ok _, ?_⟩) (fun fl s' hs => ?_) fun e s' hs => hs
  · rw [eN]
    cases e : exs (p.wd (callP p n)) df.body (ρa ++ List.replicate (df.ns - df.np) .no) with
    | nx ρ' =>
      rw [e] at q
      exact fun F' H' σ' g => q .non F' H' σ' ρ' (go_unpad ok.len g) (fun t d h => keep_fin h) (show Rep G F' .non .non from rep_non)
    | rt r ρ' =>
      rw [e] at q
      exact fun v F' H' σ' g rr => q v F' H' σ' ρ' (go_unpad ok.len g) (fun t d h => keep_fin h) (res_unpad ok.len rr)
    | exc c d ρ' =>
      rw [e] at q
      exact fun σ' F' H' dd u g h1 h2 => q F' H' σ' ρ' dd u (go_unpad ok.len g) h1 h2
    | bk ρ' => rw [e] at q; exact q.elim
    | ct ρ' => rw [e] at q; exact q.elim
    | bad => rw [e] at q; exact q.elim
  · cases fl with
    | ret u => obtain ⟨v, σ', H', J, rv, q⟩ := hs; exact fin J rv q
    | next => obtain ⟨σ', H', J, q⟩ := hs; exact fin (v := V.non) (u := Value.none) J rfl q
    | brk => obtain ⟨_, _, _, q⟩ := hs; exact False.elim q
    | cont => obtain ⟨_, _, _, q⟩ := hs; exact False.elim q

/-! ### calls -/
section
variable {X : Cx} {G : Gx} {W : Wd} {Wx : WX} {k f n : Nat} {fa : Addr} {fd : FuncData} {ps : List Str}
theorem call_sp {F H : Hp} {σ : St} {ρ : Rho} {as : List AV} {vs : List V} {Q : VK} {cf : CallFn} (ok : Ok G F H σ ρ) (r : AVReps G F σ vs as) (q : rdR G Wx (callWith cf f as ρ) F H σ ρ Q) : spI G cf f vs H Q (fun cls d H' => Wx cls d σ H') := by
  unfold callWith at q
  cases nd : noDup as with
  | false => rw [nd] at q; exact q.elim
  | true =>
    rw [nd, if_pos rfl] at q
    cases e : avSlots ρ as with
    | none => rw [e] at q; exact q.elim
    | some ss =>
      rw [e] at q
      dsimp only at q
      refine ⟨F, ss, callee_ok ok nd r e, ?_⟩
      cases ec : cf f ss with
      | bad => rw [ec] at q; exact q
      | ok x fin =>
        rw [ec] at q
        dsimp only at q
        intro v F' H' σ' ρ' g hf rr
        cases eb : avBack ρ as fin with
        | none => rw [eb] at q; exact q.elim
        | some ρ2 =>
          rw [eb] at q
          exact q v F' H' (go_back ok nd r e g hf eb).1 (res_back ok nd r e g hf eb rr)
      | exc c d =>
        rw [ec] at q
        dsimp only at q
        intro F' H' σ' ρ' dd u g h1 h2
        cases eb : avLost ρ as with
        | none => rw [eb] at q; exact q.elim
        | some ρ2 =>
          rw [eb] at q
          exact q F' H' dd u (go_lost ok nd r e g eb) h1 h2
theorem run_fnD {pins : List (Addr × Obj)} {σ : St} {H : Hp} {s : Shared} {Q : VK} {us us' : List Value} {vs : List V} {kw : List (Str × Value)} (D : FnD X.prog X.w X.K X.mg X.base G W.cf k f fa fd ps) (hr : RoomG k X.A) (tk : L2.Takes X Wx) (I : Inv X pins σ H s)
    (hb : vs.length = ps.length → BindsTo s fd ⟨us, kw⟩ (ps.zip us')) (r : Vals vs us') (h : spI G W.cf f vs H Q (fun cls d H' => Wx cls d σ H')) : wpAny (model X.prog X.w) X.A (PySem.call (.ref fa) us kw) (EP X pins σ Q) X.xe s := by
  refine wpAny_call (codeAny_mono (D.run X.A X.stack s H ⟨us, kw⟩ us' vs Q _ hr I.env0 (hb (D.len _ _ _ _ h)) r h) fun x s' hq => ?_)
  cases x with
  | error e => exact tk e s' (XE.of_call I (fun _ _ _ z => z) hq)
  | ok fl =>
    cases fl with
    | ret u => exact I.after hq
    | next => exact hq.elim
    | brk => exact hq.elim
    | cont => exact hq.elim

/-! ### arguments -/
def rdAF (G : Gx) (Wx : WX) (f : Rho → R (List AV × Rho)) : TA := fun σ H Q => ∃ F ρ, Ok G F H σ ρ ∧ match f ρ with
  | .ok (as, ρ') => ∀ vs F' H', Go G F H σ ρ F' H' σ ρ' → AVReps G F' σ vs as → Q vs H'
  | .exc c d ρ' => excK G Wx F H σ ρ c d ρ' σ
  | .bad => False
/-- one argument -/
def rdA1 (G : Gx) (Wx : WX) (f : Rho → R (AV × Rho)) : TE := fun σ H Q => ∃ F ρ, Ok G F H σ ρ ∧ match f ρ with
  | .ok (a, ρ') => ∀ v F' H', Go G F H σ ρ F' H' σ ρ' → AVRep G F' σ v a → shOnly a → Q v H'
  | .exc c d ρ' => excK G Wx F H σ ρ c d ρ' σ
  | .bad => False
variable {e : Expr} {es : List Expr} {e' : E} {a' : Ar} {as' : List Ar} {i : Nat}
theorem a_sh (h : PE X e (rdE G W Wx e')) : PE X e (rdA1 G Wx (evA1 W (.sh e'))) := by
  refine pe_imp h fun σ H Q ⟨F, ρ, ok, q⟩ => ⟨F, ρ, ok, ?_⟩
  have q0 : match (ev W e' ρ).bind fun (x, ρ1) => R.ok (AV.sh (.sh x.d), ρ1) with
    | .ok (a, ρ') => ∀ v F' H', Go G F H σ ρ F' H' σ ρ' → AVRep G F' σ v a → shOnly a → Q v H'
    | .exc c d ρ' => excK G Wx F H σ ρ c d ρ' σ
    | .bad => False := q
  cases r : ev W e' ρ with
  | bad => rw [r] at q0; exact q0
  | exc c d ρ' => rw [r] at q0; exact q0
  | ok p =>
    obtain ⟨x, ρ1⟩ := p
    rw [r] at q0
    intro v F' H' g rr
    obtain ⟨F2, g2, m, rep⟩ := freeze ok g rr
    exact q0 v F2 H' g2 rep trivial
theorem a_io {ix : Expr} (h : PE X ix (tVar i)) : PE X ix (rdA1 G Wx (evA1 W (.io i))) := by
  refine pe_imp h fun σ H Q ⟨F, ρ, ok, q⟩ => ?_
  have q0 : match (match (Opd.at i).get ρ with | some _ => R.ok (AV.io i, ρ) | none => .bad) with
    | .ok (a, ρ') => ∀ v F' H', Go G F H σ ρ F' H' σ ρ' → AVRep G F' σ v a → shOnly a → Q v H'
    | .exc c d ρ' => excK G Wx F H σ ρ c d ρ' σ
    | .bad => False := q
  cases e : (Opd.at i).get ρ with
  | none => rw [e] at q0; exact q0.elim
  | some d =>
    rw [e] at q0
    obtain ⟨v, h1, _⟩ := get_slot ok e
    exact ⟨v, h1, q0 v F H (Go.refl ok) h1 trivial⟩
theorem a_nil : PA X [] (rdAF G Wx (evA W [])) := pa_imp pa_nil fun σ H Q ⟨F, ρ, ok, q⟩ => q [] F H (Go.refl ok) .nil
/-- after one argument -/
theorem args_then {σ : St} {H : Hp} {Q : List V → Hp → Prop} (q : rdAF G Wx (evA W (a' :: as')) σ H Q) : tCons (rdA1 G Wx (evA1 W a')) (rdAF G Wx (evA W as')) σ H Q := by
  obtain ⟨F, ρ, ok, q⟩ := q
  have q0 : match (evA1 W a' ρ).bind fun (x, ρ1) => (evA W as' ρ1).bind fun (xs, ρ2) => R.ok (x :: xs, ρ2) with
    | .ok (as, ρ') => ∀ vs F' H', Go G F H σ ρ F' H' σ ρ' → AVReps G F' σ vs as → Q vs H'
    | .exc c d ρ' => excK G Wx F H σ ρ c d ρ' σ
    | .bad => False := q
  clear q
  refine ⟨F, ρ, ok, ?_⟩
  cases r : evA1 W a' ρ with
  | bad => rw [r] at q0; exact q0
  | exc c d ρ' => rw [r] at q0; exact q0
  | ok p =>
    obtain ⟨x, ρ1⟩ := p
    rw [r] at q0
    intro v F1 H1 g rr so
    refine ⟨F1, ρ1, g.ok, ?_⟩
    cases r2 : evA W as' ρ1 with
    | bad => simp only [R.bind, r2] at q0
    | exc c d ρ' => simp only [R.bind, r2] at q0; exact excK.back ok g q0
    | ok p =>
      obtain ⟨xs, ρ2⟩ := p
      simp only [R.bind, r2] at q0
      intro vs F3 H3 g3 rl
      refine q0 _ F3 H3 (g.trans ok g3) (.cons ?_ so rl)
      cases x with
      | sh r => exact Rep.mono g3.mono rr
      | io j => exact rr
theorem a_cons (ha : PE X e (rdA1 G Wx (evA1 W a'))) (hr : PA X es (rdAF G Wx (evA W as'))) (hs : starEach (e :: es) X.env = (false, eval e X.env) :: starEach es X.env := by rfl) : PA X (e :: es) (rdAF G Wx (evA W (a' :: as'))) :=
  pa_imp (pa_cons ha hr hs) fun σ H Q q => args_then q
theorem pk_imp {kws : List Keyword} {t t' : TA} (h : PK X kws t) (i : ∀ σ H Q, t' σ H Q → t σ H Q) : PK X kws t' := ⟨fun p pins s σ H Q I q => h.run p pins s σ H Q I (i σ H Q q)⟩
theorem k_nil : PK X [] (rdAF G Wx (evA W [])) := pk_imp pk_nil fun σ H Q ⟨F, ρ, ok, q⟩ => q [] F H (Go.refl ok) .nil
theorem k_cons {kws : List Keyword} {nm : Option Str} {kpos : Pos} (ha : PE X e (rdA1 G Wx (evA1 W a'))) (hr : PK X kws (rdAF G Wx (evA W as'))) : PK X (⟨nm, e, kpos⟩ :: kws) (rdAF G Wx (evA W (a' :: as'))) :=
  pk_imp (pk_cons ha hr) fun σ H Q q => args_then q
/-- after the arguments -/
theorem rdAF_then {f : Rho → R (List AV × Rho)} {kk : List AV → Rho → R (Res × Rho)} {F H : Hp} {σ : St} {ρ : Rho} {Q : VK} {Q1 : List V → Hp → Prop} (ok : Ok G F H σ ρ) (q : rdR G Wx ((f ρ).bind fun (x, ρ1) => kk x ρ1) F H σ ρ Q)
    (h : ∀ vs F1 H1 ρ1 as, Go G F H σ ρ F1 H1 σ ρ1 → AVReps G F1 σ vs as → rdR G Wx (kk as ρ1) F1 H1 σ ρ1 Q → Q1 vs H1) : rdAF G Wx f σ H Q1 := by
  refine ⟨F, ρ, ok, ?_⟩
  cases r : f ρ with
  | bad => rw [r] at q; exact q
  | exc c d ρ' => rw [r] at q; exact q
  | ok p =>
    obtain ⟨as, ρ1⟩ := p
    rw [r] at q
    intro vs F1 H1 g rr
    refine h vs F1 H1 ρ1 as g rr ?_
    have q' : rdR G Wx (kk as ρ1) F H σ ρ Q := q
    cases r2 : kk as ρ1 with
    | bad => rw [r2] at q'; exact q'
    | exc c d ρ' => rw [r2] at q'; exact excK.back ok g q'
    | ok p =>
      obtain ⟨r3, ρ3⟩ := p
      rw [r2] at q'
      intro v F' H' g' rr'
      exact q' v F' H' (g.trans ok g') (rr'.back g)
theorem rdA1_then {f : Rho → R (AV × Rho)} {kk : AV → Rho → R (Res × Rho)} {F H : Hp} {σ : St} {ρ : Rho} {Q : VK} {Q1 : VK} (ok : Ok G F H σ ρ) (q : rdR G Wx ((f ρ).bind fun (x, ρ1) => kk x ρ1) F H σ ρ Q)
    (h : ∀ v F1 H1 ρ1 a, Go G F H σ ρ F1 H1 σ ρ1 → AVRep G F1 σ v a → shOnly a → rdR G Wx (kk a ρ1) F1 H1 σ ρ1 Q → Q1 v H1) : rdA1 G Wx f σ H Q1 := by
  refine ⟨F, ρ, ok, ?_⟩
  cases r : f ρ with
  | bad => rw [r] at q; exact q
  | exc c d ρ' => rw [r] at q; exact q
  | ok p =>
    obtain ⟨as, ρ1⟩ := p
    rw [r] at q
    intro vs F1 H1 g rr so
    refine h vs F1 H1 ρ1 as g rr so ?_
    have q' : rdR G Wx (kk as ρ1) F H σ ρ Q := q
    cases r2 : kk as ρ1 with
    | bad => rw [r2] at q'; exact q'
    | exc c d ρ' => rw [r2] at q'; exact excK.back ok g q'
    | ok p =>
      obtain ⟨r3, ρ3⟩ := p
      rw [r2] at q'
      intro v F' H' g' rr'
      exact q' v F' H' (g.trans ok g') (rr'.back g)

/-! ### a def called by its name -/
variable {x : Str} {p pos apos : Pos}
def BindsA (fd : FuncData) (ps : List Str) : Prop := ∀ us : List Value, us.length = ps.length → bindArgs fd ⟨us, []⟩ = pure (ps.zip us)
theorem BindsA.to {fd : FuncData} {ps : List Str} (h : BindsA fd ps) (s : Shared) {us : List Value} {vs : List V} (r : Vals vs us) (hl : vs.length = ps.length) : BindsTo s fd ⟨us, []⟩ (ps.zip us) := .of_eq (h us (by rw [← r.length]; exact hl))
theorem c_call (D : FnD X.prog X.w X.K X.mg X.base G W.cf k f fa fd ps) (hr : RoomG k X.A) (hm : X.mg x = some (.ref fa)) (hk : PySem.W.keepIn X.K (.ref fa) = true) (hb : BindsA fd ps) (tk : L2.Takes X Wx) (ha : PA X (e :: es) (rdAF G Wx (evA W as'))) (hg : Gl X x := by rfl)
    (hdb : (x == ("__debug__" : Str)) = false := by decide) (he : starEach (e :: es) X.env = (false, eval e X.env) :: starEach es X.env := by rfl) (hpl : (backTo pos (starEach es X.env)).any (·.1) = false := by rfl) :
    PE X (.Call (.Name x p) (e :: es) [] pos) (rdE G W Wx (.call f as')) := by
  refine ⟨fun pins s σ H Q I ⟨F, ρ, ok, q⟩ => ?_⟩
  refine wpAny_Call_Name_kw (ld_glob I hg hm (PySem.W.callWith_K (h₀ := X.base) I.ok.mod.kin hk (thn (ha.run pos pins s σ H (fun vs H1 => spI G W.cf f vs H1 Q (fun cls d H' => Wx cls d σ H')) I ?_) fun us s1 ⟨vs, H1, I1, r, q1⟩ => ⟨I1.kIn, run_fnD D hr tk I1 (hb.to s1 r) r q1⟩) he hpl) hdb)
  exact rdAF_then (kk := fun vs ρ1 => callWith W.cf f vs ρ1) ok q fun vs F1 H1 ρ1 as g rr q1 => call_sp g.ok rr q1
theorem c_call0 (D : FnD X.prog X.w X.K X.mg X.base G W.cf k f fa fd ps) (hr : RoomG k X.A) (hm : X.mg x = some (.ref fa)) (hk : PySem.W.keepIn X.K (.ref fa) = true) (hb : BindsA fd ps) (tk : L2.Takes X Wx) (hg : Gl X x := by rfl)
    (hdb : (x == ("__debug__" : Str)) = false := by decide) : PE X (.Call (.Name x p) [] [] pos) (rdE G W Wx (.call f [])) := by
  refine ⟨fun pins s σ H Q I ⟨F, ρ, ok, q⟩ => ?_⟩
  have q1 : rdR G Wx (callWith W.cf f [] ρ) F H σ ρ Q := q
  exact wpAny_Call_Name_kw (ld_glob I hg hm (PySem.W.callWith_K0 I.kIn hk (run_fnD (us := []) D hr tk I (hb.to s .nil) .nil (call_sp ok .nil q1))) hdb)
/-- arguments by their names too -/
def BindsK (fd : FuncData) (ps : List Str) (m : Nat) (ks : List Str) (pm : List Nat) : Prop := ∀ us ws us' : List Value, us.length = m → ws.length = ks.length → permX (us ++ ws) pm = some us' → bindArgs fd ⟨us, ks.zip ws⟩ = pure (ps.zip us')
theorem permX_rep {F : Hp} {σ : St} {vs : List V} {us : List Value} {as as2 : List AV} (r : Vals vs us) (ra : AVReps G F σ vs as) : ∀ {pm : List Nat}, permX as pm = some as2 → ∃ us' vs', permX us pm = some us' ∧ Vals vs' us' ∧ AVReps G F σ vs' as2
  | [], h => by cases h; exact ⟨[], [], rfl, .nil, .nil⟩
  | t :: pm, h => by
    unfold permX at h
    cases e1 : as[t]? with
    | none => rw [e1] at h; cases h
    | some a =>
      cases e2 : permX as pm with
      | none => rw [e1, e2] at h; cases h
      | some as3 =>
        rw [e1, e2] at h
        cases h
        obtain ⟨us', vs', h1, h2, h3⟩ := permX_rep r ra e2
        obtain ⟨v, h4, h5, h6⟩ := ra.get e1
        obtain ⟨u, h7, h8⟩ := r.get h4
        refine ⟨u :: us', v :: vs', ?_, .cons h8 h2, .cons h5 h6 h3⟩
        unfold permX
        rw [h7, h1]
theorem AVReps.app {F : Hp} {σ : St} {vs ws : List V} {as bs : List AV} (r : AVReps G F σ vs as) (r2 : AVReps G F σ ws bs) : AVReps G F σ (vs ++ ws) (as ++ bs) := by
  induction r with
  | nil => exact r2
  | cons h s _ ih => exact .cons h s ih
variable {kws : List Keyword} {ks : List Str} {pm : List Nat} {ks' : List Ar}
theorem run_kw {pins : List (Addr × Obj)} {σ : St} {H F : Hp} {ρ : Rho} {s : Shared} {Q : VK} {us ws : List Value} {vs zs : List V} {as bs : List AV} (D : FnD X.prog X.w X.K X.mg X.base G W.cf k f fa fd ps) (hr : RoomG k X.A) (tk : L2.Takes X Wx) (hb : BindsK fd ps us.length ks pm) (I : Inv X pins σ H s)
    (r : Vals vs us) (rz : Vals zs ws) (hw : ws.length = ks.length) (ok : Ok G F H σ ρ) (ra : AVReps G F σ vs as) (rb : AVReps G F σ zs bs) (q : rdR G Wx ((R.opt (permX (as ++ bs) pm)).bind fun ws => callWith W.cf f ws ρ) F H σ ρ Q) :
    wpAny (model X.prog X.w) X.A (PySem.call (.ref fa) us (ks.zip ws)) (EP X pins σ Q) X.xe s := by
  cases e : permX (as ++ bs) pm with
  | none => rw [e] at q; exact q.elim
  | some as2 =>
    rw [e] at q
    obtain ⟨us', vs', h1, h2, h3⟩ := permX_rep (r.append rz) (ra.app rb) e
    exact run_fnD D hr tk I (fun _ => .of_eq (hb us ws us' rfl hw h1)) h2 (call_sp ok h3 q)
theorem evA_len : ∀ {as' : List Ar} {ρ ρ' : Rho} {as : List AV}, evA W as' ρ = .ok (as, ρ') → as.length = as'.length
  | [], _, _, _, h => by cases h; rfl
  | a :: as', ρ, ρ', as, h => by
    have h0 : (evA1 W a ρ).bind (fun (x, ρ1) => (evA W as' ρ1).bind fun (xs, ρ2) => R.ok (x :: xs, ρ2)) = .ok (as, ρ') := h
    cases r : evA1 W a ρ with
    | bad => rw [r] at h0; cases h0
    | exc c d ρ' => rw [r] at h0; cases h0
    | ok t =>
      obtain ⟨x, ρ1⟩ := t
      rw [r] at h0
      cases r2 : evA W as' ρ1 with
      | bad => simp only [R.bind, r2] at h0; cases h0
      | exc c d ρ' => simp only [R.bind, r2] at h0; cases h0
      | ok t =>
        obtain ⟨xs, ρ2⟩ := t
        simp only [R.bind, r2] at h0
        cases h0
        rw [List.length_cons, List.length_cons, evA_len r2]
end
end Dp
/-! Keyword calls, methods, new instances. -/
namespace Dp
open PySem PySem.Spec PyProof.Rows L2
section
variable {X : Cx} {G : Gx} {W : Wd} {Wx : WX} {k f n : Nat} {fa : Addr} {fd : FuncData} {ps : List Str}
variable {e o : Expr} {es : List Expr} {e' : E} {a' : Ar} {as' ks' : List Ar} {x : Str} {p pos apos : Pos} {kws : List Keyword} {ks : List Str} {pm : List Nat}
/-- after the arguments, with their number -/
theorem evA_then {kk : List AV → Rho → R (Res × Rho)} {F H : Hp} {σ : St} {ρ : Rho} {Q : VK} {Q1 : List V → Hp → Prop} (ok : Ok G F H σ ρ) (q : rdR G Wx ((evA W as' ρ).bind fun (x, ρ1) => kk x ρ1) F H σ ρ Q)
    (h : ∀ vs F1 H1 ρ1 as, as.length = as'.length → Go G F H σ ρ F1 H1 σ ρ1 → AVReps G F1 σ vs as → rdR G Wx (kk as ρ1) F1 H1 σ ρ1 Q → Q1 vs H1) : rdAF G Wx (evA W as') σ H Q1 := by
  refine ⟨F, ρ, ok, ?_⟩
  cases r : evA W as' ρ with
  | bad => rw [r] at q; exact q
  | exc c d ρ' => rw [r] at q; exact q
  | ok p =>
    obtain ⟨as, ρ1⟩ := p
    rw [r] at q
    intro vs F1 H1 g rr
    refine h vs F1 H1 ρ1 as (evA_len r) g rr ?_
    have q' : rdR G Wx (kk as ρ1) F H σ ρ Q := q
    cases r2 : kk as ρ1 with
    | bad => rw [r2] at q'; exact q'
    | exc c d ρ' => rw [r2] at q'; exact excK.back ok g q'
    | ok p =>
      obtain ⟨r3, ρ3⟩ := p
      rw [r2] at q'
      intro v F' H' g' rr'
      exact q' v F' H' (g.trans ok g') (rr'.back g)
theorem c_callK0 (D : FnD X.prog X.w X.K X.mg X.base G W.cf k f fa fd ps) (hr : RoomG k X.A) (hm : X.mg x = some (.ref fa)) (hk : PySem.W.keepIn X.K (.ref fa) = true) (hb : BindsK fd ps 0 ks pm) (tk : L2.Takes X Wx) (hkw : PK X kws (rdAF G Wx (evA W ks'))) (hn : ks'.length = ks.length) (hg : Gl X x := by rfl)
    (hall : (backToKw pos (keywordEach kws X.env)).all (·.1.isSome) = true := by rfl) (hks : (backToKw pos (keywordEach kws X.env)).filterMap (·.1) = ks := by rfl) (hdb : (x == ("__debug__" : Str)) = false := by decide)
    (hpl : ((backTo pos (starEach [] X.env)).any (·.1) || (backToKw pos (keywordEach kws X.env)).any (·.1.isNone)) = false := by rfl) : PE X (.Call (.Name x p) [] kws pos) (rdE G W Wx (.callK f pm [] ks')) := by
  refine ⟨fun pins s σ H Q I ⟨F, ρ, ok, q⟩ => ?_⟩
  have q0 : rdR G Wx ((evA W ks' ρ).bind fun (zs, ρ2) => (R.opt (permX ([] ++ zs) pm)).bind fun ws => callWith W.cf f ws ρ2) F H σ ρ Q := q
  refine wpAny_Call_Name_kw (ld_glob I hg hm (PySem.W.callWith_KW0 (h₀ := X.base) I.ok.mod.kin hk hall ?_ hpl) hdb)
  rw [hks]
  refine thn (hkw.run pos pins s σ H (fun zs H1 => ∃ F1 ρ1 bs, Ok G F1 H1 σ ρ1 ∧ AVReps G F1 σ zs bs ∧ bs.length = ks'.length ∧ rdR G Wx ((R.opt (permX ([] ++ bs) pm)).bind fun ws => callWith W.cf f ws ρ1) F1 H1 σ ρ1 Q) I ?_) fun ws s2 ⟨zs, H2, I2, rz, F1, ρ1, bs, ok1, rb, lb, q1⟩ => ⟨I2.kIn, ?_⟩
  · exact evA_then (kk := fun zs ρ2 => (R.opt (permX ([] ++ zs) pm)).bind fun ws => callWith W.cf f ws ρ2) ok q0 fun vs F1 H1 ρ1 as l g rr q1 => ⟨F1, ρ1, as, g.ok, rr, l, q1⟩
  · exact run_kw (us := []) D hr tk hb I2 .nil rz (by rw [← rz.length, rb.len, lb, hn]) ok1 .nil rb q1
theorem c_callK (D : FnD X.prog X.w X.K X.mg X.base G W.cf k f fa fd ps) (hr : RoomG k X.A) (hm : X.mg x = some (.ref fa)) (hk : PySem.W.keepIn X.K (.ref fa) = true) (hb : BindsK fd ps as'.length ks pm) (tk : L2.Takes X Wx) (ha : PA X (e :: es) (rdAF G Wx (evA W as'))) (hkw : PK X kws (rdAF G Wx (evA W ks'))) (hn : ks'.length = ks.length) (hg : Gl X x := by rfl)
    (hall : (backToKw pos (keywordEach kws X.env)).all (·.1.isSome) = true := by rfl) (hks : (backToKw pos (keywordEach kws X.env)).filterMap (·.1) = ks := by rfl) (hdb : (x == ("__debug__" : Str)) = false := by decide) (he : starEach (e :: es) X.env = (false, eval e X.env) :: starEach es X.env := by rfl)
    (hpl : ((backTo pos (starEach (e :: es) X.env)).any (·.1) || (backToKw pos (keywordEach kws X.env)).any (·.1.isNone)) = false := by rfl) : PE X (.Call (.Name x p) (e :: es) kws pos) (rdE G W Wx (.callK f pm as' ks')) := by
  refine ⟨fun pins s σ H Q I ⟨F, ρ, ok, q⟩ => ?_⟩
  have q0 : rdR G Wx ((evA W as' ρ).bind fun (vs, ρ1) => (evA W ks' ρ1).bind fun (zs, ρ2) => (R.opt (permX (vs ++ zs) pm)).bind fun ws => callWith W.cf f ws ρ2) F H σ ρ Q := q
  refine wpAny_Call_Name_kw (ld_glob I hg hm (PySem.W.callWith_KW (h₀ := X.base) I.ok.mod.kin hk hall (thn (ha.run pos pins s σ H (fun vs H1 => ∃ F1 ρ1 as, Ok G F1 H1 σ ρ1 ∧ AVReps G F1 σ vs as ∧ as.length = as'.length ∧ rdR G Wx ((evA W ks' ρ1).bind fun (zs, ρ2) => (R.opt (permX (as ++ zs) pm)).bind fun ws => callWith W.cf f ws ρ2) F1 H1 σ ρ1 Q) I ?_)
    fun us s1 ⟨vs, H1, I1, r, F1, ρ1, as, ok1, ra, la, q1⟩ => ?_) hpl he) hdb)
  · exact evA_then (kk := fun vs ρ1 => (evA W ks' ρ1).bind fun (zs, ρ2) => (R.opt (permX (vs ++ zs) pm)).bind fun ws => callWith W.cf f ws ρ2) ok q0 fun vs F1 H1 ρ1 as l g rr q1 => ⟨F1, ρ1, as, g.ok, rr, l, q1⟩
  · rw [hks]
    refine thn (hkw.run pos pins s1 σ H1 (fun zs H2 => ∃ F2 ρ2 bs, Ok G F2 H2 σ ρ2 ∧ AVReps G F2 σ vs as ∧ AVReps G F2 σ zs bs ∧ bs.length = ks'.length ∧ rdR G Wx ((R.opt (permX (as ++ bs) pm)).bind fun ws => callWith W.cf f ws ρ2) F2 H2 σ ρ2 Q) I1 ?_) fun ws s2 ⟨zs, H2, I2, rz, F2, ρ2, bs, ok2, ra2, rb, lb, q2⟩ => ⟨I2.kIn, ?_⟩
    · exact evA_then (kk := fun zs ρ2 => (R.opt (permX (as ++ zs) pm)).bind fun ws => callWith W.cf f ws ρ2) ok1 q1 fun zs F2 H2 ρ2 bs l g rr q2 => ⟨F2, ρ2, bs, g.ok, ra.mono g.mono, rr, l, q2⟩
    · have lu : us.length = as'.length := by rw [← r.length, ra.len, la]
      exact run_kw (us := us) D hr tk (by rw [lu]; exact hb) I2 r rz (by rw [← rz.length, rb.len, lb, hn]) ok2 ra2 rb q2

/-! ### methods -/
/-- the mi-th method name is mn -/
structure MtD (P : Program) (w : World) (K : PySem.W.Frag) (mg : Str → Option Value) (base : Heap) (G : Gx) (meth : Nat → Nat → Option Nat) (cf : CallFn) (k : Nat) (mn : Str) (mi : Nat) : Prop where
  cls : ∀ c f, meth c mi = some f → L2.Cls K (G.cls c) ∧ ∃ fa fd ps, L2.Meth K (G.cls c) mn fa ∧ FnD P w K mg base G cf k f fa fd ps ∧ BindsA fd ps
  nof : ∀ j, j < G.nf → G.fld j ≠ mn
/-- what stands where the method is looked up -/
def MtAt (G : Gx) (W : Wd) (mn : Str) (mi : Nat) (x : V) (H : Hp) (f : Nat) : Prop := ∃ a c dx gs, x = .ref a ∧ H a = some (.ins (G.cls c) dx gs) ∧ gs.lookup mn = none ∧ W.meth c mi = some f
theorem mt_at {mn : Str} {mi : Nat} (D : MtD X.prog X.w X.K X.mg X.base G W.meth W.cf k mn mi) {F1 F H : Hp} {σ : St} {ρ : Rho} {a : AV} {v : V} {c : Nat} {fs : List (Nat × Dp.D)} (m : Same F1 F) (ok : Ok G F H σ ρ) (r : AVRep G F1 σ v a) (so : shOnly a) (e : a.get ρ = some (.ins c fs)) {f : Nat} (hf : W.meth c mi = some f) : MtAt G W mn mi v H f := by
  have rd : Rdv G F H (.ins c fs) v := by
    cases a with
    | sh r0 =>
      have e' : r0.d = .ins c fs := Option.some.inj e
      have r' : Rep G F1 r0.d v := r
      rw [e'] at r'
      exact .inl (r'.mono m)
    | io i => exact opd_get (o := .at i) m ok r e
  rcases rd with rd | ⟨b, rfl, o⟩
  · unfold Rep at rd
    obtain ⟨b, dx, gs, rfl, h1, h2, h3⟩ := rd
    exact ⟨b, c, dx, gs, rfl, ok.le _ _ h1, RepF.other D.nof h3, hf⟩
  · obtain ⟨dx, gs, h1, h2, h3, h4⟩ := o.2
    exact ⟨b, c, dx, gs, rfl, h1, RepF.other D.nof h4, hf⟩
theorem meth_then {mn : Str} {mi : Nat} (D : MtD X.prog X.w X.K X.mg X.base G W.meth W.cf k mn mi) {σ : St} {H : Hp} {Q : VK} (q : rdE G W Wx (.meth mi a' as') σ H Q) : rdA1 G Wx (evA1 W a') σ H fun x H1 => ∃ f, MtAt G W mn mi x H1 f ∧ rdAF G Wx (evA W as') σ H1 fun vs H2 => spI G W.cf f (x :: vs) H2 Q (fun cls d H' => Wx cls d σ H') := by
  obtain ⟨F, ρ, ok, q⟩ := q
  refine rdA1_then (kk := fun v ρ1 => match v.get ρ1 with
      | some (.ins c _) => (R.opt (W.meth c mi)).bind fun f => (evA W as' ρ1).bind fun (vs, ρ2) => callWith W.cf f (v :: vs) ρ2
      | _ => .bad) ok q fun v F1 H1 ρ1 a g rr so q1 => ?_
  split at q1
  · rename_i c fs e
    cases hf : W.meth c mi with
    | none => rw [hf] at q1; exact q1.elim
    | some f =>
      rw [hf] at q1
      refine ⟨f, mt_at D (fun _ _ h => h) g.ok rr so e hf, ?_⟩
      refine rdAF_then (kk := fun vs ρ2 => callWith W.cf f (a :: vs) ρ2) g.ok q1 fun vs F2 H2 ρ2 as g2 rs q2 => call_sp g2.ok (.cons ?_ so rs) q2
      cases a with
      | sh r => exact Rep.mono g2.mono rr
      | io j => exact rr
  · exact q1.elim
theorem c_meth {mn : Str} {mi : Nat} {pl : Sem Bool} (D : MtD X.prog X.w X.K X.mg X.base G W.meth W.cf k mn mi) (hr : RoomG k X.A) (tk : L2.Takes X Wx) (ho : PE X o (rdA1 G Wx (evA1 W a'))) (ha : PA X (e :: es) (rdAF G Wx (evA W as')))
    (hst : starEach (e :: es) X.env = (false, eval e X.env) :: starEach es X.env := by rfl) (hpl : (backTo pos (starEach es X.env)).any (·.1) = false := by rfl)
    (ht : eval (.Call (.Attribute o mn apos) (e :: es) [] pos) X.env = (do
      let recv ← eval o X.env
      standAt apos.atName
      let (fn, first) ← holding [recv] (getMethod recv mn pl)
      PySem.callWith pos fn first (backTo pos (starEach (e :: es) X.env)) (backToKw pos (keywordEach [] X.env))) := by rfl) : PE X (.Call (.Attribute o mn apos) (e :: es) [] pos) (rdE G W Wx (.meth mi a' as')) := by
  refine ⟨fun pins s σ H Q I q => ?_⟩
  refine PySem.W.methodCall_KW (pl := pl) (thn (ho.run pins s σ H _ I (meth_then D q)) fun u s1 ⟨x, H1, I1, rx, f, ⟨a, c, dx, gs, ex, ea, l, hf⟩, q1⟩ => ?_) ht
  subst ex
  obtain rfl : u = Value.ref a := rx
  obtain ⟨kc, fa, fd, ps, km, kf, kb⟩ := D.cls c f hf
  refine getmeth_ok I1 ea kc km l (PySem.W.callWith_K (first := [.ref a]) (h₀ := X.base) I.ok.mod.kin km.kp (thn (ha.run pos pins s1 σ H1 _ I1 q1) fun us s2 ⟨vs, H2, I2, r, q2⟩ => ⟨I2.kIn, ?_⟩) hst hpl)
  have r2 : Vals (V.ref a :: vs) (Value.ref a :: us) := .cons rfl r
  exact run_fnD kf hr tk I2 (kb.to s2 r2) r2 q2
theorem c_meth0 {mn : Str} {mi : Nat} {pl : Sem Bool} (D : MtD X.prog X.w X.K X.mg X.base G W.meth W.cf k mn mi) (hr : RoomG k X.A) (tk : L2.Takes X Wx) (ho : PE X o (rdA1 G Wx (evA1 W a')))
    (ht : eval (.Call (.Attribute o mn apos) [] [] pos) X.env = (do
      let recv ← eval o X.env
      standAt apos.atName
      let (fn, first) ← holding [recv] (getMethod recv mn pl)
      PySem.callWith pos fn first (backTo pos (starEach [] X.env)) (backToKw pos (keywordEach [] X.env))) := by rfl) : PE X (.Call (.Attribute o mn apos) [] [] pos) (rdE G W Wx (.meth mi a' [])) := by
  refine ⟨fun pins s σ H Q I q => ?_⟩
  refine PySem.W.methodCall_KW (pl := pl) (thn (ho.run pins s σ H _ I (meth_then D q)) fun u s1 ⟨x, H1, I1, rx, f, ⟨a, c, dx, gs, ex, ea, l, hf⟩, q1⟩ => ?_) ht
  subst ex
  obtain rfl : u = Value.ref a := rx
  obtain ⟨kc, fa, fd, ps, km, kf, kb⟩ := D.cls c f hf
  have r2 : Vals [V.ref a] [Value.ref a] := .cons rfl .nil
  refine getmeth_ok I1 ea kc km l (PySem.W.callWith_K0 (first := [.ref a]) I1.kIn km.kp (run_fnD kf hr tk I1 (kb.to s1 r2) r2 ?_))
  obtain ⟨F, ρ, ok, q2⟩ := q1
  exact q2 [] F H1 (Go.refl ok) .nil
/-! ### new instances -/
theorem snoc_get {α : Type} {l : List α} {a : α} {j : Nat} {b : α} (h : (l ++ [a])[j]? = some b) : (j < l.length ∧ l[j]? = some b) ∨ (j = l.length ∧ b = a) := by
  by_cases c : j < l.length
  · rw [List.getElem?_append_left c] at h; exact .inl ⟨c, h⟩
  · rw [List.getElem?_append_right (by omega)] at h
    have : j - l.length = 0 := by
      cases z : j - l.length with
      | zero => rfl
      | succ m => rw [z] at h; simp at h
    rw [this] at h
    simp at h
    exact .inr ⟨by omega, h.symm⟩
section
variable {F F' H H' : Hp} {σ : St} {ρ ρ2 : Rho} {c : Nat} {xa dx : Addr}
/-- the new object ahead of its __init__ -/
def newH (G : Gx) (H : Hp) (c : Nat) (xa dx : Addr) : Hp := upd (upd H dx (.own xa)) xa (.ins (G.cls c) dx [])
theorem newH_old {H : Hp} {b : Addr} (hx : H xa = none) (hd : H dx = none) (h : H b ≠ none) : newH G H c xa dx b = H b := by
  unfold newH
  rw [upd_ne (fun z => by subst z; exact h hx), upd_ne (fun z => by subst z; exact h hd)]
theorem ok_new (ok : Ok G F H σ ρ) (hx : H xa = none) (hd : H dx = none) (ne : dx ≠ xa) : Ok G F (newH G H c xa dx) (σ ++ [some (.ref xa)]) (ρ ++ [.ow (.ins c [])]) := by
  have fx := free_F ok hx
  have fd := free_F ok hd
  have old : ∀ b u, H b = some u → newH G H c xa dx b = some u := fun b u h => by rw [newH_old hx hd (by rw [h]; simp)]; exact h
  have ownNew : Own G F (newH G H c xa dx) (.ins c []) xa := ⟨fx, dx, [], upd_same, by unfold newH; rw [upd_ne ne, upd_same], fd, by unfold RepF; rfl⟩
  have ow : ∀ {j : Nat} {d : D}, isOw (ρ ++ [.ow (.ins c [])]) j d → (j < ρ.length ∧ isOw ρ j d) ∨ (j = ρ.length ∧ d = .ins c []) := fun {j d} h => by
    rcases h with h | h
    · rcases snoc_get h with ⟨h1, h2⟩ | ⟨h1, h2⟩
      · exact .inl ⟨h1, .inl h2⟩
      · cases h2; exact .inr ⟨h1, rfl⟩
    · rcases snoc_get h with ⟨h1, h2⟩ | ⟨h1, h2⟩
      · exact .inl ⟨h1, .inr h2⟩
      · cases h2
  have σl : ∀ {j : Nat}, j < ρ.length → (σ ++ [some (V.ref xa)])[j]? = σ[j]? := fun h => List.getElem?_append_left (by rw [ok.len]; exact h)
  have σn : (σ ++ [some (V.ref xa)])[ρ.length]? = some (some (.ref xa)) := by rw [← ok.len]; simp
  refine ⟨by simp [ok.len], fun b u h => old b u (ok.le _ _ h), fun j d h => ?_, fun j d h => ?_, fun j k d1 d2 a hjk h1 h2 h3 h4 => ?_, fun a b h => ?_⟩
  · rcases snoc_get h with ⟨h1, h2⟩ | ⟨h1, h2⟩
    · rw [σl h1]; exact ok.sh j d h2
    · cases h2
  · rcases ow h with ⟨h1, h2⟩ | ⟨rfl, rfl⟩
    · obtain ⟨a, h3, h4⟩ := ok.ow j d h2
      exact ⟨a, by rw [σl h1]; exact h3, h4.keep (fun _ _ q => q) h4.1 (fun u q => old _ _ q) fun dy q => ⟨old _ _ q, fun z => z⟩⟩
    · exact ⟨xa, σn, ownNew⟩
  · have there : ∀ {i : Nat} {e : D}, isOw ρ i e → σ[i]? = some (some (.ref xa)) → False := fun h q => by
      obtain ⟨b, h5, h6⟩ := ok.ow _ _ h
      rw [q] at h5; cases h5
      exact h6.there hx
    rcases ow h1 with ⟨p1, p2⟩ | ⟨rfl, rfl⟩
    · rw [σl p1] at h3
      rcases ow h2 with ⟨q1, q2⟩ | ⟨rfl, rfl⟩
      · rw [σl q1] at h4
        exact ok.nd j k d1 d2 a hjk p2 q2 h3 h4
      · rw [σn] at h4; cases h4
        exact there p2 h3
    · rw [σn] at h3; cases h3
      rcases ow h2 with ⟨q1, q2⟩ | ⟨rfl, rfl⟩
      · rw [σl q1] at h4
        exact there q2 h4
      · exact hjk rfl
  · unfold newH at h
    by_cases c1 : a = xa
    · subst c1; rw [upd_same] at h; cases h
    · rw [upd_ne c1] at h
      by_cases c2 : a = dx
      · subst c2; rw [upd_same] at h; cases h
        unfold newH; rw [upd_same]; simp
      · rw [upd_ne c2] at h
        have q := ok.dct _ _ h
        rw [newH_old hx hd q]; exact q
theorem go_pop {o : D} (ok : Ok G F H σ ρ) (hx : H xa = none) (hd : H dx = none) (ne : dx ≠ xa) (g : Go G F (newH G H c xa dx) (σ ++ [some (.ref xa)]) (ρ ++ [.ow (.ins c [])]) F' H' (σ ++ [some (.ref xa)]) ρ2) (hl : ρ2.getLast? = some (.ow o)) :
    Go G F H σ ρ F' H' σ ρ2.dropLast ∧ ResRep G H σ ρ F' H' σ ρ2.dropLast (.ref xa) (.fr o) := by
  have l2 : ρ2.length = ρ.length + 1 := by
    have := g.ok.len
    rw [List.length_append, List.length_singleton, ok.len] at this
    exact this.symm
  have split : ρ2 = ρ2.dropLast ++ [.ow o] := by
    have nn : ρ2 ≠ [] := fun z => by rw [z] at l2; simp at l2
    have q := List.dropLast_concat_getLast nn
    rw [List.getLast?_eq_some_getLast nn] at hl
    rw [Option.some.inj hl] at q
    exact q.symm
  have ld : ρ2.dropLast.length = ρ.length := by rw [List.length_dropLast, l2]; rfl
  have get2 : ∀ {j : Nat} {s : Slot}, ρ2.dropLast[j]? = some s → j < ρ.length ∧ ρ2[j]? = some s := fun {j s} h => by
    have hj := (List.getElem?_eq_some_iff.mp h).1
    refine ⟨by rw [← ld]; exact hj, ?_⟩
    rw [split, List.getElem?_append_left hj]; exact h
  have ow2 : ∀ {j : Nat} {d : D}, isOw ρ2.dropLast j d → j < ρ.length ∧ isOw ρ2 j d := fun {j d} h => by
    rcases h with h | h
    · exact ⟨(get2 h).1, .inl (get2 h).2⟩
    · exact ⟨(get2 h).1, .inr (get2 h).2⟩
  have lastOw : isOw ρ2 ρ.length o := .inl (by rw [split, List.getElem?_append_right (by rw [ld]; exact Nat.le_refl _), ld]; simp)
  have σl : ∀ {j : Nat}, j < ρ.length → (σ ++ [some (V.ref xa)])[j]? = σ[j]? := fun h => List.getElem?_append_left (by rw [ok.len]; exact h)
  have σn : (σ ++ [some (V.ref xa)])[ρ.length]? = some (some (.ref xa)) := by rw [← ok.len]; simp
  have old : ∀ {b : Addr}, H b ≠ none → newH G H c xa dx b = H b := fun h => newH_old hx hd h
  have ownOld : ∀ {a : Addr}, own (σ ++ [some (V.ref xa)]) (ρ ++ [.ow (.ins c [])]) a → own σ ρ a ∨ a = xa := fun {a} ⟨j, d, h1, h2⟩ => by
    have : (j < ρ.length ∧ isOw ρ j d) ∨ j = ρ.length := by
      rcases h1 with h | h
      · rcases snoc_get h with ⟨p, q⟩ | ⟨p, _⟩
        · exact .inl ⟨p, .inl q⟩
        · exact .inr p
      · rcases snoc_get h with ⟨p, q⟩ | ⟨p, _⟩
        · exact .inl ⟨p, .inr q⟩
        · exact .inr p
    rcases this with ⟨p, q⟩ | rfl
    · rw [σl p] at h2; exact .inl ⟨j, d, q, h2⟩
    · rw [σn] at h2; cases h2; exact .inr rfl
  have nox : ∀ {a : Addr}, H a ≠ none → a ≠ xa := fun h z => by subst z; exact h hx
  have none_of : ∀ {a : Addr}, newH G H c xa dx a = none → H a = none := fun {a} h => by
    cases z : H a with
    | none => rfl
    | some u =>
      have q := old (b := a) (by rw [z]; simp)
      rw [h, z] at q; cases q
  refine ⟨⟨⟨by rw [ld]; exact ok.len, g.ok.le, fun j d h => ?_, fun j d h => ?_, fun j k d1 d2 a hjk h1 h2 h3 h4 => ?_, g.ok.dct⟩, g.mono, fun a u h n => g.keep a u (by rw [old (by rw [h]; simp)]; exact h) fun z => ?_, fun a h n f => g.keepF a (by rw [old h]; exact h) (fun z => ?_) f, fun a h => g.there a (by rw [old h]; exact h), fun a b h => ?_, fun a h => ?_, fun j d h => ?_⟩, ?_⟩
  · obtain ⟨p, q⟩ := get2 h
    have := g.ok.sh j d q
    rw [σl p] at this; exact this
  · obtain ⟨p, q⟩ := ow2 h
    have := g.ok.ow j d q
    rw [σl p] at this; exact this
  · obtain ⟨p1, q1⟩ := ow2 h1
    obtain ⟨p2, q2⟩ := ow2 h2
    exact g.ok.nd j k d1 d2 a hjk q1 q2 (by rw [σl p1]; exact h3) (by rw [σl p2]; exact h4)
  · rcases ownOld z with z | z
    · exact n z
    · exact nox (by rw [h]; simp) z
  · rcases z with z | ⟨b, hb, z⟩
    · rcases ownOld z with z | z
      · exact n (.inl z)
      · exact nox h z
    · rw [old h] at hb
      rcases ownOld z with z | z
      · exact n (.inr ⟨b, hb, z⟩)
      · exact nox (ok.dct _ _ hb) z
  · rcases g.shape a b h with q | q
    · exact .inl (none_of q)
    · cases z : H a with
      | none => exact .inl rfl
      | some u => rw [old (by rw [z]; simp), z] at q; exact .inr q
  · obtain ⟨j, d, h1, h2⟩ := h
    obtain ⟨p, q⟩ := ow2 h1
    rcases g.own a ⟨j, d, q, by rw [σl p]; exact h2⟩ with z | z
    · rcases ownOld z with z | z
      · exact .inl z
      · exact .inr (by rw [z]; exact hx)
    · exact .inr (none_of z)
  · have p := (List.getElem?_eq_some_iff.mp h).1
    obtain ⟨⟨d', h1⟩, h2⟩ := g.io j d (by rw [List.getElem?_append_left p]; exact h)
    refine ⟨⟨d', ?_⟩, rfl⟩
    rw [split, List.getElem?_append_left (by rw [ld]; exact p)] at h1
    exact h1
  · obtain ⟨b, h1, h2⟩ := g.ok.ow ρ.length o lastOw
    rw [σn] at h1; cases h1
    refine ⟨xa, rfl, h2, fun ⟨j, d, h3, h4⟩ => ?_, .inl hx⟩
    obtain ⟨p, q⟩ := ow2 h3
    exact g.ok.nd j ρ.length d o xa (by omega) q lastOw (by rw [σl p]; exact h4) σn
theorem reps_snoc {vs : List V} {as : List AV} {w : Option V} (r : AVReps G F σ vs as) : AVReps G F (σ ++ [w]) vs as := by
  induction r with
  | nil => exact .nil
  | @cons v a vs as h s r ih =>
    refine .cons ?_ s ih
    cases a with
    | sh r => exact h
    | io i =>
      have h' : σ[i]? = some (some v) := h
      show (σ ++ [w])[i]? = some (some v)
      rw [List.getElem?_append_left (List.getElem?_eq_some_iff.mp h').1]; exact h'
theorem new_sp {as : List AV} {vs : List V} {Q : VK} {cf : CallFn} (ok : Ok G F H σ ρ) (r : AVReps G F σ vs as) (hx : H xa = none) (hd : H dx = none) (ne : dx ≠ xa)
    (q : rdR G Wx (match callWith cf f (.io ρ.length :: as) (ρ ++ [.ow (.ins c [])]) with
      | .ok (.sh .non, ρ2) => (match ρ2.getLast? with
        | some (.ow o) => .ok (.fr o, ρ2.dropLast)
        | _ => .bad)
      | _ => .bad) F H σ ρ Q) : spI G cf f (.ref xa :: vs) (newH G H c xa dx) (fun v H2 => v = .non ∧ Q (.ref xa) H2) (fun _ _ _ => False) := by
  have ok' := ok_new (c := c) ok hx hd ne
  have r' : AVReps G F (σ ++ [some (.ref xa)]) (.ref xa :: vs) (.io ρ.length :: as) := .cons (show (σ ++ [some (V.ref xa)])[ρ.length]? = some (some (.ref xa)) by rw [← ok.len]; simp) trivial (reps_snoc r)
  refine call_sp (Wx := fun _ _ _ _ => False) ok' r' ?_
  cases e : callWith cf f (.io ρ.length :: as) (ρ ++ [.ow (.ins c [])]) with
  | bad => rw [e] at q; exact q.elim
  | exc c d ρ' => rw [e] at q; exact q.elim
  | ok t =>
    obtain ⟨x, ρ2⟩ := t
    rw [e] at q
    intro v F' H' g rr
    cases x with
    | fr d => exact q.elim
    | sh d =>
      cases d <;> first | exact q.elim | skip
      dsimp only at q
      split at q
      · rename_i o hl
        obtain ⟨g2, r2⟩ := go_pop ok hx hd ne g hl
        exact ⟨by unfold ResRep Rep at rr; exact rr, q _ F' H' g2 r2⟩
      · exact q.elim
end
/-- the class that x names, made -/
theorem run_newD {pins : List (Addr × Obj)} {σ : St} {H : Hp} {s : Shared} {Q : VK} {us : List Value} {vs : List V} {c : Nat} (M : L2.Mk X.K (G.cls c) fa) (D : FnD X.prog X.w X.K X.mg X.base G W.cf k f fa fd ps) (hr : RoomG (k + 1) X.A) (hb : BindsA fd ps)
    (I : Inv X pins σ H s) (r : Vals vs us) (h : ∀ xa dx, H xa = none → H dx = none → dx ≠ xa → spI G W.cf f (.ref xa :: vs) (newH G H c xa dx) (fun v H2 => v = .non ∧ Q (.ref xa) H2) (fun _ _ _ => False)) :
    wpAny (model X.prog X.w) X.A (PySem.call (.ref (G.cls c)) us) (EP X pins σ Q) X.xe s := by
  have hq := h (s.heap.objs.size + 1) s.heap.objs.size (I.hok.fresh (Nat.le_succ _)) (I.hok.fresh (Nat.le_refl _)) (Nat.ne_of_lt (Nat.lt_succ_self _))
  have I2 := Inv.made (C := G.cls c) I
  have r2 : Vals (V.ref (s.heap.objs.size + 1) :: vs) (Value.ref (s.heap.objs.size + 1) :: us) := .cons rfl r
  refine wpAny_call (make_map (f := fa) I.kIn M.makes M.init (beq_iff_eq.mp M.fn) (codeAny_mono (D.run _ X.stack _ _ ⟨Value.ref (s.heap.objs.size + 1) :: us, []⟩ _ _ _ _ (hr.make (G.cls c) us []) (I2.env0.make (G.cls c) us []) (hb.to _ r2 (D.len _ _ _ _ hq)) r2 hq) fun x s' hx => ?_))
  cases x with
  | error e =>
    obtain ⟨_, _, _, _, _, _, _, _, _, _, _, _, z⟩ := hx
    exact z.elim
  | ok fl =>
    cases fl with
    | ret u =>
      obtain ⟨v, H', I3, rv, ev, q3⟩ := I2.after hx
      subst ev
      exact ⟨rv, ⟨V.ref (s.heap.objs.size + 1), H', I3, rfl, q3⟩⟩
    | next => exact hx.elim
    | brk => exact hx.elim
    | cont => exact hx.elim
theorem new_of {c : Nat} {F H : Hp} {σ : St} {ρ : Rho} {Q : VK} (hf : W.init c = some f) (ok : Ok G F H σ ρ) (q : rdR G Wx (ev W (.new c as') ρ) F H σ ρ Q) : rdAF G Wx (evA W as') σ H fun vs H1 => ∀ xa dx, H1 xa = none → H1 dx = none → dx ≠ xa → spI G W.cf f (.ref xa :: vs) (newH G H1 c xa dx) (fun v H2 => v = .non ∧ Q (.ref xa) H2) (fun _ _ _ => False) := by
  refine rdAF_then (kk := fun vs ρ1 => (R.opt (W.init c)).bind fun f =>
      match callWith W.cf f (.io ρ1.length :: vs) (ρ1 ++ [.ow (.ins c [])]) with
      | .ok (.sh .non, ρ2) => (match ρ2.getLast? with
        | some (.ow o) => .ok (.fr o, ρ2.dropLast)
        | _ => .bad)
      | _ => .bad) ok q fun vs F1 H1 ρ1 as g rr q1 xa dx hx hd ne => ?_
  rw [hf] at q1
  exact new_sp g.ok rr hx hd ne q1
theorem c_new {c : Nat} (hf : W.init c = some f) (M : L2.Mk X.K (G.cls c) fa) (D : FnD X.prog X.w X.K X.mg X.base G W.cf k f fa fd ps) (hr : RoomG (k + 1) X.A) (hm : X.mg x = some (.ref (G.cls c))) (hb : BindsA fd ps) (ha : PA X (e :: es) (rdAF G Wx (evA W as'))) (hg : Gl X x := by rfl)
    (hdb : (x == ("__debug__" : Str)) = false := by decide) (he : starEach (e :: es) X.env = (false, eval e X.env) :: starEach es X.env := by rfl) (hpl : (backTo pos (starEach es X.env)).any (·.1) = false := by rfl) :
    PE X (.Call (.Name x p) (e :: es) [] pos) (rdE G W Wx (.new c as')) := by
  refine ⟨fun pins s σ H Q I ⟨F, ρ, ok, q⟩ => ?_⟩
  exact wpAny_Call_Name_kw (ld_glob I hg hm (PySem.W.callWith_K (h₀ := X.base) I.ok.mod.kin M.kp (thn (ha.run pos pins s σ H _ I (new_of hf ok q)) fun us s1 ⟨vs, H1, I1, r, q1⟩ => ⟨I1.kIn, run_newD M D hr hb I1 r q1⟩) he hpl) hdb)
theorem c_new0 {c : Nat} (hf : W.init c = some f) (M : L2.Mk X.K (G.cls c) fa) (D : FnD X.prog X.w X.K X.mg X.base G W.cf k f fa fd ps) (hr : RoomG (k + 1) X.A) (hm : X.mg x = some (.ref (G.cls c))) (hb : BindsA fd ps) (hg : Gl X x := by rfl)
    (hdb : (x == ("__debug__" : Str)) = false := by decide) : PE X (.Call (.Name x p) [] [] pos) (rdE G W Wx (.new c [])) := by
  refine ⟨fun pins s σ H Q I ⟨F, ρ, ok, q⟩ => ?_⟩
  have q1 : rdAF G Wx (evA W []) σ H _ := new_of (Wx := Wx) hf ok q
  obtain ⟨F1, ρ1, ok1, q2⟩ := q1
  exact wpAny_Call_Name_kw (ld_glob I hg hm (PySem.W.callWith_K0 I.kIn M.kp (run_newD (us := []) M D hr hb I .nil (q2 [] F1 H (Go.refl ok1) .nil))) hdb)
end
end Dp
/-! The package's errors, made. -/
namespace DpX
open PySem PySem.W PySem.Calls PyProof.Rows PySem.HandSPX
/-! ### the text of __init__ -/
def eArgs (p1 p2 : Pos) : Arguments := { posonlyargs := [], args := [{ arg := "self", annotation := none, pos := p1 }, { arg := "value", annotation := none, pos := p2 }], vararg := none, kwonlyargs := [], kw_defaults := [], kwarg := none, defaults := [] }
def eBody (msg : Str) (j : Nat) (q1 q2 q3 q4 q5 q6 q7 q8 q9 q10 : Pos) : List Stmt := [
  .Expr (.Call (.Attribute (.Call (.Name "super" q1) [] [] q2) "__init__" q3) [.Constant (.str msg) j q4] [] q5) q6,
  .Assign [.Attribute (.Name "self" q7) "value" q8] (.Name "value" q9) q10]
def eScope : Scope := { kind := .function, names := [(PySem.Str.ofString "self", .local), (PySem.Str.ofString "value", .local), (PySem.Str.ofString "__class__", .free), (PySem.Str.ofString "super", .globalImplicit)], isGenerator := false, isCoroutine := false, more := [] }
/-- what the written part says of the class at C: its __init__ is that of the class at S, at fI -/
structure ErrT (prog : Program) (K : Frag) (C S fI : Addr) : Prop where
  cls : ∃ nm q N bs bm sn sub ab col dd k0 k1 k2 k3 k5, K.lookup C = some (excClassObj nm q C N bs bm true sn sub ab col dd k0 k1 k2 k3 k5 "ValueError.__new__") ∧ refsVE bm = true
  sa : findIn K (.ref C) "__setattr__" = some (some (.builtin "object.__setattr__"))
  noV : findIn K (.ref C) "value" = some none
  iC : findIn K (.ref C) "__init__" = some (some (.ref fI))
  tI : typeIn K (.ref fI) = some (.type "function")
  vE : subIn K (.ref C) (.type "ValueError") = some true
  fn : ∃ (oc : Value) (od : Option Addr) (doc pm : Value) (an : Option Addr) (cda cc : Addr) (ct : Value) (osl : Array (Option Value)) (msg : Str) (j : Nat) (p1 p2 q1 q2 q3 q4 q5 q6 q7 q8 q9 q10 : Pos),
    K.lookup fI = some ⟨oc, od, .func (ksFn "__init__" "SayingError.__init__" (eArgs p1 p2) (eBody msg j q1 q2 q3 q4 q5 q6 q7 q8 q9 q10) eScope .none .none doc pm an (.ref cda) ct cc), osl⟩ ∧ codeIn K (.ref cda) "SayingError.__init__" = true ∧
    (∃ ccl cdd vs ccs file tf, K.lookup cda = some ⟨ccl, cdd, .fields vs, ccs⟩ ∧ vs[2]? = some (.str file tf) ∧ ((prog.main.file : Str) == file) = true) ∧
    (∃ cl cld csl, K.lookup cc = some ⟨cl, cld, .cell (some (.ref S)), csl⟩) ∧
    (∀ env : Env, ∃ pl : Sem Bool, eval (.Call (.Attribute (.Call (.Name "super" q1) [] [] q2) "__init__" q3) [.Constant (.str msg) j q4] [] q5) env = (do
      let recv ← attributeBase (.Call (.Name "super" q1) [] [] q2) "__init__" env (eval (.Call (.Name "super" q1) [] [] q2) env)
      standAt q3.atName
      let (fn, first) ← holding [recv] (getMethod recv "__init__" pl)
      PySem.callWith q5 fn first (backTo q5 (starEach [.Constant (.str msg) j q4] env)) []))
  cS : ∃ cd, clsIn K S = some cd
  below : mroIn K C (.ref S) = some true
  stat : nsIn K cStatics "thirdparty.any" = some none
  sup : ks_superIn K C S "__init__" = some (some (.builtin "ValueError.__init__"))
  top : (prog.main.scope.names.lookup ("super" : Str)).isSome = false
section
variable {prog : Program} {w : World} {A : Around} {B : Value → Shared → Prop} {R : Result → Shared → Prop} {s : Shared} {K : Frag} {mg : Str → Option Value} {base : Heap} {C S fI : Addr}
/-- what __init__ leaves of a fresh exception at x -/
structure Inited (h h' : Heap) (x C dx t1 : Addr) (v : Value) : Prop where
  keep : ∀ b o, b ≠ x → h.get? b = some o → h'.get? b = some o
  obj : h'.get? x = some { cls := .ref C, dict := some dx, data := .fields #[.ref t1, .none, .none, .none, .bool false, .none] }
  big : h.objs.size ≤ dx
  ne : dx ≠ x
  ns : h'.Ns1 dx (fun y => if y = "value" then some v else none)
theorem kept_except {h h' : Heap} {x : Addr} (X : K.In h) (hx : K.lookup x = none) (k : ∀ b o, b ≠ x → h.get? b = some o → h'.get? b = some o) : K.In h' := fun a o e => k a o (fun z => by rw [z, hx] at e; cases e) (X a o e)
/-- ValueError.__init__ bound to a fresh exception, called -/
theorem call_mw {u x t0 : Addr} {rest : List Value} {Q : Value → Shared → Prop} {h : Heap} {g : Array GenState} {d : Drawn} {t : Nat} {os : OsState} {nm q : Str} {N : Addr} {bs bm sub : List Value} {sn : List Str} {ab : Bool} {col : Option Bool} {dd : Option Addr} {k0 k1 k2 k3 k5 : Option Value}
    (hC : h.get? C = some (excClassObj nm q C N bs bm true sn sub ab col dd k0 k1 k2 k3 k5 "ValueError.__new__")) (hu : h.get? u = some (kxs_mw "ValueError.__init__" x)) (he : h.get? x = some (excO C t0)) (hz : rest.length ≤ sizeLine)
    (hq : ∀ h', (∀ b o, b ≠ x → h.get? b = some o → h'.get? b = some o) → h'.get? x = some (excO C h.objs.size) → Q .none ⟨h', g, d, t, os⟩) : wpAny (model prog w) A (PySem.call (.ref u) rest) Q B ⟨h, g, d, t, os⟩ := by
  refine wpAny_call (codeAny_of_tree (show wpAny _ A.in1 (callAny (.ref u) ⟨rest, []⟩) _ _ _ from ?_))
  simp only [callAny]; refine wpAny_bind (wpAny_load hu ?_)
  simp only [kxs_mw, show (Value.type "method-wrapper" == Value.type "method" || Value.type "method-wrapper" == Value.type "builtin_function_or_method" || Value.type "method-wrapper" == Value.type "method-wrapper") = true by decide, if_true]; refine KFB.if_so (by decide) ?_
  refine wpAny_bind (check_bound_init PySem.F.excBase_ValueError.toExcCallFacts hC he rfl (wpAny_bind (wpAny_pure (wpAny_pure ⟨plainId_quiet PySem.F.excBase_ValueError.init.plain _, codeAny_builtin PySem.F.excBase_ValueError.initEntry ?_⟩))))
  exact exc_init_tree (cls := .ref C) (t0 := t0) (dv := none) (c2 := .none) (c3 := .none) (b4 := .bool false) he hz fun h' k e _ => hq h' k e
theorem err_init (T : ErrT prog K C S fI) {x t0 : Addr} {v : Value} (X : K.In s.heap) (hlim : s.heap.NoLimit) (hgl : s.heap.Ns mainGlobals mg) (hms : mg "super" = none) (hbl : ∃ mb, s.heap.Ns builtinsNs mb ∧ mb "super" = some (.type "super")) (hx : s.heap.get? x = some (excO C t0)) (hnx : K.lookup x = none)
    (hroom : A.depth < recursionLimit) (hq : ∀ h' tk dx t1, Inited s.heap h' x C dx t1 v → R (.ok (.ret .none)) { s with heap := h', toks := tk }) : codeAny (model prog w) A (.call (.ref fI) ⟨[.ref x, v], []⟩) R s := by
  obtain ⟨oc, od, doc, pm, an, cda, cc, ct, osl, msg, j, p1, p2, q1, q2, q3, q4, q5, q6, q7, q8, q9, q10, ho, hcd, ⟨ccl, cdd, vs, ccs, file, tf, hcode, hvs, hfile⟩, ⟨cl, cld, csl, hcell⟩, hev⟩ := T.fn
  obtain ⟨nm, q, N, bs, bm, sn, sub, ab, col, dd, k0, k1, k2, k3, k5, hC, hbm⟩ := T.cls
  obtain ⟨cdS, hS⟩ := T.cS
  obtain ⟨mb, hb1, hb2⟩ := hbl
  have hcl : clsIn K C = some { name := nm, bases := bs, mro := .ref C :: bm, ns := N, qualname := q, hasDict := true, slotNames := sn, subclasses := sub, abstract := ab, collection := col, hasDel := false } := by unfold clsIn; rw [hC] <;> rfl
  obtain ⟨hp, g, d, t, os⟩ := s
  refine ks_codeAny_call_defAt (fd := ksFn "__init__" "SayingError.__init__" (eArgs p1 p2) (eBody msg j q1 q2 q3 q4 q5 q6 q7 q8 q9 q10) eScope .none .none doc pm an (.ref cda) ct cc) (body := eBody msg j q1 q2 q3 q4 q5 q6 q7 q8 q9 q10) (binds := [("self", .ref x), ("value", v)]) hroom (X _ _ ho) rfl hlim (codeRec_of X hcd) rfl
    (BindsTo.of_eq (by first | rfl | with_unfolding_all rfl)) (by show ∀ y ∈ eScope.names, y.2 ≠ .cell; decide) (by intro y hy; rcases List.mem_cons.mp hy with rfl | hy; rfl; rcases List.mem_cons.mp hy with rfl | hy; rfl; cases hy) (fun h1 hns k1' => ?_)
  have X1 : K.In h1 := X.keeps k1'
  have hx1 := k1' _ _ hx
  have I1 : InstAt h1 x (excO C t0) C none := ⟨hx1, rfl, rfl, trivial⟩
  obtain ⟨oS, hS1, hS2⟩ : ∃ oS, h1.get? S = some oS ∧ oS.data = .cls cdS := by
    unfold clsIn at hS
    split at hS
    · rename_i lk
      cases hS
      exact ⟨_, X1 _ _ lk, rfl⟩
    · cases hS
  have hxC : x ≠ C := fun z => by rw [z, hC] at hnx; cases hnx
  obtain ⟨pl, hpl⟩ := hev (callEnv (ksFn "__init__" "SayingError.__init__" (eArgs p1 p2) (eBody msg j q1 q2 q3 q4 q5 q6 q7 q8 q9 q10) eScope .none .none doc pm an (.ref cda) ct cc) hp.objs.size fI)
  refine ks_wpAt_execs_cons (ks_wpAt_Expr_any (ks_wpAt_MethodCall (ks_wpAt_super_base (f := fI) (by rfl) (by rfl) (by decide) rfl (X1 _ _ ho) rfl rfl rfl (X1 _ _ hcode) rfl hvs hfile T.top ?_) hpl) (by rfl) (by rfl))
  refine ks_loadName_global rfl (by rfl) (loadGlobal_builtin (hgl.keeps k1') hms (hb1.keeps k1') hb2 ⟨rfl, ?_⟩)
  refine wpAny_loadName_free rfl (by rfl) (by rfl) ⟨_, X1 _ _ hcell, rfl⟩ ?_
  refine wpAny_loadName_local (m := fun y => List.lookup y [("value", v), ("self", Value.ref x)]) rfl (by rfl) hns (v := .ref x) (by rfl) ?_
  refine ks_wpAny_isType_cls hS1 hS2 ⟨rfl, ks_wpAny_call_super hS1 hS2 hx1 rfl (fun c e => nomatch e) (looks_mroIn X1 T.below) (fun h2 so k2 => ?_)⟩
  have X2 : K.In h2 := X1.keeps k2
  have hx2 := k2 _ _ hx1
  have I2 : InstAt h2 x (excO C t0) C none := ⟨hx2, rfl, rfl, trivial⟩
  have lt1 : hp.objs.size < h1.objs.size := hns.lt
  refine kxs_getMethod kxs_ValueError so (looks_opaque X2 T.stat) (l₀ := .ref C :: bm) (fun A Q E s k q => wpAny_bind ((looks_clsIn X2 hcl) A _ E s k (wpAny_pure q))) rfl X2 ?_ (I2.type.andThen (looks_subIn X2 T.vE)) hxC (by decide) ?_
  · have z := T.sup
    unfold ks_superIn at z
    rw [hcl] at z
    exact z
  have X3 : K.In (h2.push (kxs_mw "ValueError.__init__" x)) := X2.keeps fun b o e => Heap.get?_push_of_some _ e
  have hx3 : (h2.push (kxs_mw "ValueError.__init__" x)).get? x = some (excO C t0) := Heap.get?_push_of_some _ hx2
  refine kxs_callWith (x := x) (i := "ValueError.__init__") (by rfl) (evalArgs_plain (Calls.spliced_cons (Calls.Constant_str (k := j) (pos := q4) (Calls.spliced_nil ⟨Heap.get?_push_size _ rfl, ?_⟩))))
  refine call_mw (X3 _ _ hC) (Heap.get?_push_size _ rfl) hx3 (by rw [sizeLine_eq]; simp) fun h4 k4 hx4 => ?_
  -- self.value = value
  have hL4 : h4.Ns hp.objs.size (fun y => List.lookup y [("value", v), ("self", Value.ref x)]) := by
    refine Heap.Ns.at hns fun o e => k4 _ _ (fun z => ?_) (Heap.get?_push_of_some _ (k2 _ _ e))
    have := Heap.lt_size hx
    rw [← z] at this
    exact absurd this (Nat.lt_irrefl _)
  have X4 : K.In h4 := kept_except X3 hnx k4
  refine ks_wpAt_execs_cons (ks_wpAt_Assign_Attr (wpAt_of_wpAny (wpAny_Name (wpAny_loadName_local rfl (by rfl) hL4 (v := v) (by rfl) (wpAny_Name (wpAny_loadName_local rfl (by rfl) hL4 (v := .ref x) (by rfl) ?_) (by decide))) (by decide))) (by rfl))
  refine set_plain X4 (ox := excO C _) (od := none) ⟨hx4, rfl, rfl, trivial⟩ T.sa ?_
  refine exc_osa X4 hx4 hcl (show refsVE (.ref C :: bm) = true from hbm) rfl T.noV fun h5 tk5 dx k5 dn dne hx5 hn5 => ?_
  refine wpAt_of_wpAny (wpAny_execs_nil (hq h5 tk5 dx _ ⟨fun b o hb e => k5 b o hb (k4 b o hb (Heap.get?_push_of_some _ (k2 _ _ (k1' _ _ e)))), hx5, ?_, dne, hn5⟩))
  exact Nat.le_of_lt (Nat.lt_of_lt_of_le hL4.lt dn)
/-- an error made -/
structure Made1 (h h' : Heap) (e C dd t1 : Addr) (v : Value) : Prop where
  keep : ∀ b o, h.get? b = some o → h'.get? b = some o
  new : h.objs.size ≤ e
  obj : h'.get? e = some { cls := .ref C, dict := some dd, data := .fields #[.ref t1, .none, .none, .none, .bool false, .none] }
  big : h.objs.size ≤ dd
  ne : dd ≠ e
  ns : h'.Ns1 dd (fun y => if y = "value" then some v else none)
theorem err_made (T : ErrT prog K C S fI) {v : Value} (X : K.In s.heap) (hlim : s.heap.NoLimit) (hgl : s.heap.Ns mainGlobals mg) (hms : mg "super" = none) (hbl : ∃ mb, s.heap.Ns builtinsNs mb ∧ mb "super" = some (.type "super")) (hroom : A.depth + 1 < recursionLimit)
    (hq : ∀ h' tk e dd t1, Made1 s.heap h' e C dd t1 v → R (.ok (.ret (.ref e))) { s with heap := h', toks := tk }) : codeAny (model prog w) A (.call (.ref C) ⟨[v], []⟩) R s := by
  obtain ⟨nm, q, N, bs, bm, sn, sub, ab, col, dd, k0, k1, k2, k3, k5, hC, hbm⟩ := T.cls
  obtain ⟨hp, g, dr, tk, os⟩ := s
  have k : ∀ b o, hp.get? b = some o → ((hp.push (kdv_tup [v])).push (excO C hp.objs.size)).get? b = some o := fun b o e => Heap.get?_push_of_some _ (Heap.get?_push_of_some _ e)
  have hget : ((hp.push (kdv_tup [v])).push (excO C hp.objs.size)).get? (hp.objs.size + 1) = some (excO C hp.objs.size) := by heap_get
  have hnx : K.lookup (hp.objs.size + 1) = none := by
    cases e : K.lookup (hp.objs.size + 1) with
    | none => rfl
    | some o => exact absurd (Nat.lt_of_succ_lt (Heap.lt_size (show hp.get? (hp.objs.size + 1) = some o from X _ _ e))) (Nat.lt_irrefl _)
  refine call_own PySem.F.excBase_ValueError (fun Y => refsVE_contains Y bm hbm) (X _ _ hC) (looks_findIn X T.iC) (fun self => bind_fn X self T.tI) (by rw [sizeLine_eq]; simp) ?_
  obtain ⟨mb, hb1, hb2⟩ := hbl
  refine err_init (s := ⟨(hp.push (kdv_tup [v])).push (excO C hp.objs.size), g, dr, tk, os⟩) T (X.keeps k) (hlim.keeps k) (hgl.keeps k) hms ⟨mb, hb1.keeps k, hb2⟩ hget hnx ?_ fun h' tk' dx t1 m => ?_
  · show A.depth + 1 < recursionLimit
    exact hroom
  · have z : hp.objs.size + 1 + 1 ≤ dx := by
      have q := m.big
      first | (simpa only [Heap.size_push] using q) | exact q | (rw [Heap.size_push, Heap.size_push] at q; exact q)
    exact ⟨rfl, hq h' tk' (hp.objs.size + 1) dx t1 ⟨fun b o e => m.keep b o (Nat.ne_of_lt (Nat.lt_succ_of_lt (Heap.lt_size e))) (k b o e), Nat.le_succ _, m.obj, Nat.le_trans (Nat.le_trans (Nat.le_succ _) (Nat.le_succ _)) z, m.ne, m.ns⟩⟩
end
end DpX
/-! raise, try. -/
namespace Dp
open PySem PySem.Spec PyProof.Rows L2

section
variable {G : Gx} {F H : Hp} {σ : St} {ρ : Rho} {p : Addr} {o : HO}
/-- a new object, frozen at once -/
theorem go_frz (ok : Ok G F H σ ρ) (hp : H p = none) (ho : ∀ b, o ≠ .own b) : Go G F H σ ρ (upd F p o) (upd H p o) σ ρ := by
  have g := go_new (o := o) ok hp ho
  have fp := free_F ok hp
  have m : Same F (upd F p o) := fun b u hb => by rw [upd_ne (ne_of_none hb fp)]; exact hb
  refine ⟨⟨ok.len, fun b u hb => ?_, fun i d h => ?_, fun i d h => ?_, ok.nd, g.ok.dct⟩, m, g.keep, fun b h1 h2 h3 => ?_, g.there, g.shape, g.own, g.io⟩
  · by_cases hb' : b = p
    · subst hb'; rw [upd_same] at hb ⊢; exact hb
    · rw [upd_ne hb'] at hb; exact g.ok.le _ _ hb
  · obtain ⟨v, h1, h2⟩ := ok.sh i d h
    exact ⟨v, h1, h2.mono m⟩
  · obtain ⟨a, h1, h2⟩ := g.ok.ow i d h
    have na : a ≠ p := fun z => by subst z; exact fresh_own ok hp ⟨i, d, h, h1⟩
    refine ⟨a, h1, h2.keep m (by rw [upd_ne na]; exact h2.1) (fun _ q => q) fun dx q => ⟨q, fun w => ?_⟩⟩
    rw [upd_ne]; exact w
    intro z; subst z; rw [upd_same] at q; exact ho _ (Option.some.inj q)
  · rw [upd_ne (fun z => by subst z; exact h1 hp)]; exact h3
end
section
variable {X : Cx} {G : Gx} {W : Wd} {Wx : WX} {k c : Nat} {S fI : Addr} {e : Expr} {e' : E} {x : Str} {p pos pos' : Pos}
/-- an error of the package, made of a value -/
def tErr (C : Addr) (te : TE) : St → Hp → XK → Prop := fun σ H Q => te σ H fun x H1 => ∃ v, [x] = [v] ∧ ∀ dd, H1 dd = none → Q (.ref C) (some dd) (upd H1 dd (.xd [(("value" : Str), v)]))
theorem pmk_err {C : Addr} {te : TE} (T : DpX.ErrT X.prog X.K C S fI) (hr : RoomG k X.A) (hm : X.mg x = some (.ref C)) (hk : PySem.W.keepIn X.K (.ref C) = true) (hs : X.mg "super" = none) (hx : Raises X (.ref C)) (he : PE X e te) (hg : Gl X x := by rfl)
    (hdb : (x == ("__debug__" : Str)) = false := by decide) (hst : starEach [e] X.env = (false, eval e X.env) :: starEach [] X.env := by rfl) (hpl : (backTo pos (starEach [] X.env)).any (·.1) = false := by rfl) : PMk X (.Call (.Name x p) [e] [] pos) (tErr C te) := by
  intro pins s σ H Q I q
  refine wpAny_Call_Name_kw (ld_glob I hg hm (PySem.W.callWith_K (h₀ := X.base) I.ok.mod.kin hk (thn ((pa_cons he pa_nil hst).run pos pins s σ H (fun vs H1 => ∃ v, vs = [v] ∧ ∀ dd, H1 dd = none → Q (.ref C) (some dd) (upd H1 dd (.xd [(("value" : Str), v)]))) I ?_) fun us s1 ⟨vs, H1, I1, r, v, ev, q1⟩ => ⟨I1.kIn, ?_⟩) hst hpl) hdb)
  · exact q
  · subst ev
    obtain ⟨u, rfl, rv⟩ := vals1 r
    obtain ⟨mb, b1, b2⟩ := I1.mod.blt
    refine wpAny_call (DpX.err_made (mg := X.mg) T I1.kIn (I1.mod.nolimit.keeps I1.bk) (I1.mod.glob.keeps I1.bk) hs ⟨mb, b1.keeps I1.bk, (b2 _ (by decide)).trans (by decide +kernel)⟩ (by have := hr.rm.dp; omega) fun h' tk a dd t1 m => ?_)
    obtain ⟨h1, h2, h3, h4, h5, h6⟩ := m
    obtain ⟨Gh, g1, g2⟩ := restrict h' fun b => decide (b ≠ a)
    have gk : ∀ b, b ≠ a → Gh.get? b = h'.get? b := fun b hb => g1 b (decide_eq_true hb)
    have ge : Gh.get? a = none := g2 a (by simp)
    have old : ∀ b o, s1.heap.get? b = some o → Gh.get? b = some o := fun b o z => by
      rw [gk b fun q => absurd (Heap.lt_size z) (by rw [q]; exact Nat.not_lt.mpr h2)]; exact h1 b o z
    have nd : H1 dd = none := I1.hok.fresh h4
    have J : Inv X pins σ (upd H1 dd (.xd [(("value" : Str), v)])) { s1 with heap := Gh, toks := tk } := by
      refine I1.laid old h4 ⟨_, Heap.Ns1.at h6 (fun o z => by rw [gk dd h5]; exact z), fun f => ?_⟩
      by_cases c : f = "value"
      · subst c
        rw [List.lookup_cons_self, if_pos rfl]
        exact rv
      · have b2 : (f == ("value" : Str)) = false := by simpa using c
        rw [List.lookup_cons, b2, if_neg c]
        exact trivial
    refine ⟨a, _, _, _, _, .ref C, some dd, rfl, J, fun b o z => ?_, ge, h3, ⟨rfl, rfl⟩, rfl, rfl, ?_, rfl, I1.bare, hx, q1 dd nd⟩
    · have nb : b ≠ a := fun q => by
        have z' : Gh.get? b = some o := z
        rw [q, ge] at z'; cases z'
      have z' : Gh.get? b = some o := z
      rw [gk b nb] at z'; exact z'
    · rw [upd_ne (Ne.symm h5)]
      exact I1.hok.fresh h2
theorem s_raise (T : DpX.ErrT X.prog X.K (G.cls c) S fI) (hc : X.calm = true) (tk : L2.Takes X Wx) (hr : RoomG k X.A) (hm : X.mg x = some (.ref (G.cls c))) (hk : PySem.W.keepIn X.K (.ref (G.cls c)) = true) (hs : X.mg "super" = none) (hx : Raises X (.ref (G.cls c))) (he : PE X e (rdE G W Wx e')) (hg : Gl X x := by rfl)
    (hdb : (x == ("__debug__" : Str)) = false := by decide) (hst : starEach [e] X.env = (false, eval e X.env) :: starEach [] X.env := by rfl) (hpl : (backTo pos (starEach [] X.env)).any (·.1) = false := by rfl) :
    PS X (.Raise (some (.Call (.Name x p) [e] [] pos)) none pos') (rdS G W Wx (.raise c e')) := by
  refine ps_imp (ps_raise hc tk (pmk_err T hr hm hk hs hx he hg hdb hst hpl)) fun D σ H ⟨F, ρ, ok, q⟩ => ?_
  refine to_then0 (k := fun r ρ1 => .exc c r.d ρ1) ok q fun v F1 H1 ρ1 r g rr q1 => ⟨v, rfl, fun dd hd => ?_⟩
  obtain ⟨F2, g2, m, rep⟩ := freeze ok g rr
  have g3 := go_frz (o := .xd [(("value" : Str), v)]) g2.ok hd (fun _ z => nomatch z)
  exact q1 σ _ _ dd v (g2.trans ok g3) upd_same (rep.mono g3.mono)
end
end Dp
namespace Dp
open PySem PySem.Spec PyProof.Rows L2
section
variable {X : Cx} {pins : List (Addr × Obj)} {σ : St} {H : Hp} {s : Shared}
/-- an object that was there is tracked from now on -/
theorem inv_track {a : Addr} {o : HO} (I : Inv X pins σ H s) (na : H a = none) (new : ObjOk X.prog X.w (upd H a o) s.heap a o) (nL : a ≠ X.env.locals) (nC : ∀ x c, X.env.cells.lookup x = some c → c ≠ a) (nP : ∀ p ∈ X.pn ++ pins, p.1 ≠ a) (nB : X.s_0.heap.get? a = none) : Inv X pins σ (upd H a o) s := by
  have keep : ∀ {b u}, H b = some u → upd H a o b = some u := fun h => by rw [upd_ne (ne_of_none h na)]; exact h
  have gone : ∀ {b}, b ≠ a → H b = none → upd H a o b = none := fun hb h => by rw [upd_ne hb]; exact h
  have nb : ∀ {b u}, X.s_0.heap.get? b = some u → b ≠ a := fun h z => by rw [z, nB] at h; cases h
  refine ⟨I.ok, I.os, I.bare, ⟨I.base.keep, I.base.slot, fun b u e n hx => gone (nb e) (I.base.free b u e n hx), I.base.there, fun b xs e => keep (I.base.tups b xs e), fun b u v e => keep (I.base.frzs b u v e), fun b ps e => ?_⟩, I.loc, I.cell, gone (Ne.symm nL) I.free, fun x c e => gone (nC x c e) (I.freeC x c e), fun p hp => ?_, fun b u e => ?_, I.len⟩
  · obtain ⟨more, q⟩ := I.base.tbls b ps e
    exact ⟨more, keep q⟩
  · obtain ⟨h1, h2, h3⟩ := I.pin p hp
    exact ⟨h1, gone (nP p hp) h2, h3⟩
  · by_cases hb : b = a
    · subst hb; rw [upd_same] at e; cases e; exact new
    · rw [upd_ne hb] at e
      exact (I.hok b u e).stay (fun _ _ _ q => q) (fun _ q => keep q) fun _ _ q => keep q
/-- what the clause wishes of an exception of the body -/
def wTry (X : Cx) (G : Gx) (W : Wd) (Wx : WX) (c i : Nat) (h' : List S) (D : Ends) : WX := fun cls d σ' H' => ∃ (k : Nat) (dd : Addr) (b : Bool), cls = .ref (G.cls k) ∧ d = some dd ∧ PySem.W.exmOne X.K (.ref (G.cls k)) (.ref (G.cls c)) = some b ∧
  (b = true → ∀ a, H' a = none → rdSs G W W0 h' { nx := fun σ H => D.nx (σ.set i none) H, rt := D.rt, bk := fun σ H => D.bk (σ.set i none) H, ct := fun σ H => D.ct (σ.set i none) H } (σ'.set i (some (.ref a))) (upd H' a (exH (G.cls k) a dd))) ∧ (b = false → Wx cls d σ' H')
variable {G : Gx} {W : Wd} {Wx : WX} {x n : Str} {c i : Nat} {body suite : List Stmt} {b₀ : Stmt} {np pos pos' : Pos} {b' h' : List S}
theorem ps_tryD (hex : X.ex = []) (hs : X.stack = X.env :: X.outer) (hf : X.env.frame = some X.env.locals) (hN : X.N.Nodup) (hi : X.N[i]? = some n) (hln : X.env.kindOf n = some .local) (hc : Names X x (.ref (G.cls c))) (tk : L2.Takes X Wx)
    (hb : ∀ (V : WX) (pn : List (Addr × Obj)) (xe : Value → Shared → Prop), L2.Takes (X.tr pn xe) V → PassesOwn (model X.prog X.w) X.A X.env xe → PSs (X.tr pn xe) body (rdSs G W V b'))
    (hsu : ∀ (a : Addr) (pn : List (Addr × Obj)), PSs (X.suite a pn) (b₀ :: suite) (rdSs G W W0 h')) :
    PS X (.Try body [.ExceptHandler (some (.Name x np)) (some n) (b₀ :: suite) pos'] [] [] pos) (fun D σ H => rdSs G W (wTry X G W Wx c i h' D) b' D σ H) := by
  refine ⟨fun pins s σ H D I hq => ?_⟩
  have ok := I.ok
  have hfr : X.A.frames = some (X.env :: X.outer) := by rw [ok.frames, hs]
  have put : ∀ {Y : Cx}, Y.env = X.env → Loc Y.env.scope n := fun e => .inl (by rw [e]; exact hln)
  refine wpAny_Try_except (wpAny_mono ((hb (wTry X G W Wx c i h' D) (X.pn ++ pins) (fun e s₁ => wpAny (model X.prog X.w) X.A (noteFrame e X.env) (fun _ s₂ => wpAny (model X.prog X.w) X.A (setFlight e none) (fun _ s₃ =>
    wpAny (model X.prog X.w) X.A (handleBy e X.env [.ExceptHandler (some (.Name x np)) (some n) (b₀ :: suite) pos']) (SP X pins D) X.xe s₃) X.xe s₂) X.xe s₁) (fun u s' xx => ?_) PassesOwn.looking).run [] s σ H D (I.toTry _) hq) (fun f s1 hsp => ?_) (fun e s1 he => he))
  · obtain ⟨a, B, sI, pins', σ', H', cls, d, rfl, J', nb, up, sky, na, os, ag, k, dd, b, rfl, rfl, hb1, hyes, hno⟩ := xx
    have J : Inv X pins σ' H' sI := J'.ofTry ok
    have sky' : Sky B (X.env :: X.outer) a (Zc (.ref (G.cls k)) (some dd)) X.env.locals s'.heap := hs ▸ sky
    refine (show wpAny (model X.prog X.w) X.A (noteFrame (.ref a) X.env) _ _ _ from Sky.land Zc.steady hfr hf sky' fun h3 fl3 up3 => ?_)
    have J3 : Inv X pins σ' H' { s' with heap := h3 } := J.landed nb fl3.1 (up.trans up3) os ag
    obtain ⟨oe3, vs3, he3, hz3, hd3⟩ := fl3.there
    have outFr : ∀ {h : Heap} {o : Obj} {vs : Array Value}, h.FunFrames B (X.env :: X.outer) → h.get? a = some o → o.data = .fields vs → a ∉ frs (X.env :: X.outer) := fun ff e dq hm => by
      obtain ⟨_, o', e', nf⟩ := ff.mem hm
      rw [e] at e'; cases e'
      exact nf _ dq
    have nfr := outFr fl3.2.2.1 he3 hd3
    have nL : a ≠ X.env.locals := fun z => nfr (List.mem_filterMap.mpr ⟨X.env, List.mem_cons_self, by rw [hf, z]⟩)
    have nF : a ∉ X.fs := fun hm => nfr (by
      obtain ⟨e, he, q⟩ := List.mem_filterMap.mp hm
      exact List.mem_filterMap.mpr ⟨e, List.mem_cons_of_mem _ he, q⟩)
    have S3 := J3.suite he3 hd3 na nL nF
    have LT : PySem.W.Looks (model X.prog X.w) h3 (typeOf (.ref a)) (.ref (G.cls k)) := fun A Q E s kk q => wpAny_typeOf_ref (kk _ _ he3) (by rw [hz3.1]; exact q)
    have LM := PySem.W.exm_one (M := model X.prog X.w) (J3.kIn) LT hb1
    have test : ∀ {Q : Value → Shared → Prop} {E : Value → Shared → Prop}, Q (.ref (G.cls c)) { s' with heap := h3 } → wpAny (model X.prog X.w) (X.A.mark (some (.ref a))) (eval (.Name x np) X.env) Q E { s' with heap := h3 } := fun q => by
      obtain ⟨hg, hdbg, hm | ⟨hm, hv, hnn⟩⟩ := hc
      · exact ld_glob (X := X.suite a ((a, oe3) :: (X.pn ++ pins))) S3 hg hm q hdbg
      · exact ld_blt (X := X.suite a ((a, oe3) :: (X.pn ++ pins))) S3 hg hm hv q hnn hdbg
    refine wpAny_handleBy_cons (codeAny_handlers_test (test (LM.here ?_))) (by intro q; cases q)
    cases b with
    | true =>
      refine codeAny_handlers_suite_as (HandSPX.lands_againZ fl3 fun h4 fl4 up4 => ?_)
      have J4 : Inv X pins σ' H' { s' with heap := h4 } := J.landed nb fl4.1 ((up.trans up3).trans up4) os ag
      obtain ⟨oe4, vs4, he4, hz4, hd4⟩ := fl4.there
      have inB : ∀ b o, sI.heap.get? b = some o → b ∉ frs X.stack → b ≠ a := fun b o e hb z => by
        have q := nb b o e hb
        rw [z, fl4.2.1] at q; cases q
      have nfS : ∀ {b}, b ≠ X.env.locals → b ∉ X.fs → b ∉ frs X.stack := fun {b} h1 h2 hm => by
        rw [hs] at hm
        obtain ⟨e, he, q⟩ := List.mem_filterMap.mp hm
        rcases List.mem_cons.mp he with rfl | he
        · rw [hf] at q; cases q; exact h1 rfl
        · exact h2 (List.mem_filterMap.mpr ⟨e, he, q⟩)
      have T4 : Inv X pins σ' (upd H' a (exH (G.cls k) a dd)) { s' with heap := h4 } := by
        refine inv_track J4 na ⟨⟨oe4, vs4, he4, hz4.1, hz4.2, hd4⟩, ⟨oe4, he4⟩, fun h5 h6 ⟨o, v, q1, q2⟩ kk => ⟨o, v, kk o q1, q2⟩⟩ nL (fun y cc e z => ?_) (fun p hp => ?_) ?_
        · obtain ⟨w, oc, e1, e2⟩ := J4.cell y cc e
          rw [z] at e1
          have e1' : h4.get? a = some oc := e1
          rw [he4] at e1'; cases e1'
          rw [hd4] at e2; cases e2
        · obtain ⟨q1, q2, q3, q4, _⟩ := J.pin p hp
          exact inB _ _ q1 (nfS q3 q4)
        · cases e : X.s_0.heap.get? a with
          | none => rfl
          | some o =>
            by_cases hx : a ∈ X.ex
            · rw [hex] at hx; cases hx
            · obtain ⟨o', e'⟩ := J.base.there a o e hx
              exact absurd rfl (inB a o' e' (nfS nL nF))
      have S4 : Inv (X.suite a (X.pn ++ pins)) [] σ' (upd H' a (exH (G.cls k) a dd)) { s' with heap := h4 } := ⟨T4.ok.suite _ _, T4.os, T4.bare, T4.base, T4.loc, T4.cell, T4.free, T4.freeC, fun p hp => T4.pin p (by rw [List.append_nil] at hp; exact hp), T4.hok, T4.len⟩
      refine store_ok (X := X.suite a (X.pn ++ pins)) (v := .ref a) S4 hN hi (put rfl) rfl (fun s5 S5 => ?_) (.inr hln)
      refine wpAny_mono ((hsu a (X.pn ++ pins)).run [] s5 _ _ _ S5 (hyes rfl a na)) (fun f s6 hsp => ?_) (fun _ _ z => False.elim z)
      have out : ∀ {σ6 : St} {H6 : Hp}, Inv (X.suite a (X.pn ++ pins)) [] σ6 H6 s6 → Inv X pins σ6 H6 s6 := fun S6 => ⟨ok, S6.os, S6.bare, S6.base, S6.loc, S6.cell, S6.free, S6.freeC, fun p hp => S6.pin p (List.mem_append_left _ hp), S6.hok, S6.len⟩
      have end_ : ∀ {σ6 : St} {H6 : Hp} {Q : Shared → Prop}, Inv (X.suite a (X.pn ++ pins)) [] σ6 H6 s6 → (∀ s7, Inv X pins (σ6.set i none) H6 s7 → Q s7) → wpAny (model X.prog X.w) X.A (do bindName X.env n .none; unbindBehindTheSuite X.env n pos') (fun _ s7 => Q s7) X.xe s6 := fun S6 hq => gone_ok (out S6) hN hi hln hq
      cases f with
      | next => obtain ⟨σ6, H6, S6, q6⟩ := hsp; exact end_ S6 fun s7 J7 => ⟨_, _, J7, q6⟩
      | brk => obtain ⟨σ6, H6, S6, q6⟩ := hsp; exact end_ S6 fun s7 J7 => ⟨_, _, J7, q6⟩
      | cont => obtain ⟨σ6, H6, S6, q6⟩ := hsp; exact end_ S6 fun s7 J7 => ⟨_, _, J7, q6⟩
      | ret u => obtain ⟨v6, σ6, H6, S6, r6, q6⟩ := hsp; exact end_ S6 fun s7 J7 => ⟨_, _, _, J7, r6, q6⟩
    | false =>
      refine (show wpAny _ X.A (handleBy (.ref a) X.env []) _ _ _ from wpAny_handleBy_nil ?_)
      obtain ⟨k1, k2, k3, oe, vs, T, oT, ts', he, hz, hd, h1, hr⟩ := id fl3
      unfold PySem.passOn
      refine wpAny_bind (wpAny_field he hd h1 ?_)
      rw [if_neg (by simp : ¬ ((Value.ref T == Value.none) = true))]
      have goOn : wpAny (model X.prog X.w) X.A (setFlight (.ref a) X.env.frame) (fun _ s4 => wpAny (model X.prog X.w) X.A (throw (.ref a) : Sem Flow) (SP X pins D) X.xe s4) X.xe { s' with heap := h3 } := by
        rw [hf]
        refine HandSPX.setFlight_upZ fl3 fun h4 hh4 up4 => wpAny_throw (tk _ _ ⟨a, B, sI, pins, σ', H', _, _, rfl, J, nb, (up.trans up3).trans up4, .inr (.inr (hs ▸ hh4)), na, os, ag, hno rfl⟩)
      first | exact wpAny_bind (wpAny_pure (wpAny_bind goOn)) | exact wpAny_bind goOn
  · cases f with
    | next => obtain ⟨σ', H', J', q⟩ := hsp; exact wpAny_execs_nil ⟨σ', H', J'.ofTry ok, q⟩
    | brk => obtain ⟨σ', H', J', q⟩ := hsp; exact ⟨σ', H', J'.ofTry ok, q⟩
    | cont => obtain ⟨σ', H', J', q⟩ := hsp; exact ⟨σ', H', J'.ofTry ok, q⟩
    | ret u => obtain ⟨v, σ', H', J', r, q⟩ := hsp; exact ⟨v, σ', H', J'.ofTry ok, r, q⟩
theorem s_try (hex : X.ex = []) (hs : X.stack = X.env :: X.outer) (hf : X.env.frame = some X.env.locals) (hN : X.N.Nodup) (hi : X.N[i]? = some n) (hln : X.env.kindOf n = some .local) (hc : Names X x (.ref (G.cls c))) (tk : L2.Takes X Wx)
    (hx : ∀ k b, W.sub k c = some b → PySem.W.exmOne X.K (.ref (G.cls k)) (.ref (G.cls c)) = some b)
    (hb : ∀ (V : WX) (pn : List (Addr × Obj)) (xe : Value → Shared → Prop), L2.Takes (X.tr pn xe) V → PassesOwn (model X.prog X.w) X.A X.env xe → PSs (X.tr pn xe) body (rdSs G W V b'))
    (hsu : ∀ (a : Addr) (pn : List (Addr × Obj)), PSs (X.suite a pn) (b₀ :: suite) (rdSs G W W0 h')) :
    PS X (.Try body [.ExceptHandler (some (.Name x np)) (some n) (b₀ :: suite) pos'] [] [] pos) (rdS G W Wx (.try_ b' c i h')) := by
  refine ps_imp (ps_tryD hex hs hf hN hi hln hc tk hb hsu) fun D σ H ⟨F, ρ, ok, q⟩ => ⟨F, ρ, ok, ?_⟩
  have q0 : rdXR G Wx (match exs W b' ρ with
    | .exc k d ρ1 => match W.sub k c with
      | some true =>
        XR.opt (fun ρ2 => match exs W h' ρ2 with
          | .nx ρ3 => XR.opt .nx (setR ρ3 i .no)
          | .rt r ρ3 => .rt r ρ3
          | .bk ρ3 => XR.opt .bk (setR ρ3 i .no)
          | .ct ρ3 => XR.opt .ct (setR ρ3 i .no)
          | _ => .bad) (setR ρ1 i (.sh (.exc k d)))
      | some false => .exc k d ρ1
      | none => .bad
    | o => o) F H σ ρ D := q
  clear q
  cases e : exs W b' ρ with
  | nx ρ1 => rw [e] at q0; exact q0
  | rt r ρ1 => rw [e] at q0; exact q0
  | bk ρ1 => rw [e] at q0; exact q0
  | ct ρ1 => rw [e] at q0; exact q0
  | bad => rw [e] at q0; exact q0
  | exc k d ρ1 =>
    rw [e] at q0
    dsimp only at q0
    intro σ1 F1 H1 dd u g h1 h2
    cases es : W.sub k c with
    | none => rw [es] at q0; exact q0.elim
    | some b =>
      rw [es] at q0
      refine ⟨k, dd, b, rfl, rfl, hx k b es, fun eb a ha => ?_, fun eb => ?_⟩
      · subst eb
        dsimp only at q0
        obtain ⟨ρ2, e2, q2⟩ := opt_then q0
        have g1 := g.trans ok (go_frz (o := exH (G.cls k) a dd) g.ok ha (fun _ z => nomatch z))
        have m1 : Same F1 (upd F1 a (exH (G.cls k) a dd)) := fun b u hb => by rw [upd_ne (ne_of_none hb (free_F g.ok ha))]; exact hb
        have rep : Rep G (upd F1 a (exH (G.cls k) a dd)) (.exc k d) (.ref a) := by
          unfold Rep
          exact ⟨a, dd, u, rfl, upd_same, m1 _ _ h1, h2.mono m1⟩
        have g2 := go_set g1 (s := .sh (.exc k d)) ⟨_, rfl, rep⟩ e2
        refine ⟨_, ρ2, g2.ok, ?_⟩
        have noSet : ∀ {F3 H3 : Hp} {σ3 : St} {ρ3 ρ4 : Rho}, Go G F H σ ρ F3 H3 σ3 ρ3 → setR ρ3 i .no = some ρ4 → Go G F H σ ρ F3 H3 (σ3.set i none) ρ4 := fun g e => go_set g (s := .no) trivial e
        cases e3 : exs W h' ρ2 with
        | nx ρ3 =>
          rw [e3] at q2
          dsimp only at q2
          obtain ⟨ρ4, e4, q4⟩ := opt_then q2
          exact fun F3 H3 σ3 g3 => q4 F3 H3 _ (noSet (g2.trans ok g3) e4)
        | bk ρ3 =>
          rw [e3] at q2
          dsimp only at q2
          obtain ⟨ρ4, e4, q4⟩ := opt_then q2
          exact fun F3 H3 σ3 g3 => q4 F3 H3 _ (noSet (g2.trans ok g3) e4)
        | ct ρ3 =>
          rw [e3] at q2
          dsimp only at q2
          obtain ⟨ρ4, e4, q4⟩ := opt_then q2
          exact fun F3 H3 σ3 g3 => q4 F3 H3 _ (noSet (g2.trans ok g3) e4)
        | rt r ρ3 =>
          rw [e3] at q2
          exact fun v F3 H3 σ3 g3 rr => q2 v F3 H3 σ3 (g2.trans ok g3) (rr.back g2)
        | exc c d ρ3 => rw [e3] at q2; exact q2.elim
        | bad => rw [e3] at q2; exact q2.elim
      · subst eb
        exact q0 σ1 F1 H1 dd u g h1 h2
end
end Dp
/-! The law's def, called behind the top. -/
namespace Dp
open PySem PySem.Spec PyProof.Rows L2
theorem law_callD {P : Program} {w : World} {K : PySem.W.Frag} {mg mb : Str → Option Value} {G : Gx} {cf : CallFn} {k f : Nat} {fa a : Addr} {fd : FuncData} {x : Str} {s₁ : Shared} {vs : List Value} {ns : List Int}
    (KX : K.In s₁.heap) (hns : s₁.heap.Ns mainGlobals mg) (hb : s₁.heap.Ns builtinsNs mb) (hbb : ∀ x : Str, x ≠ "__name__" → mb x = bootBuiltins x) (hlim : s₁.heap.NoLimit) (hg : s₁.gens = #[])
    (ha : s₁.heap.get? a = some { cls := .type "list", data := .seq vs.toArray }) (hi : IntsAre vs ns) (hl : ns.length ≤ sizeLine) (hr : RoomG k callerA) (hGK : G.K = K)
    (D : ∀ base : Heap, K.In base → base.Ns mainGlobals mg → FnD P w K mg base G cf k f fa fd [x]) (hbind : ∀ (s : Shared) (u : Value), BindsTo s fd ⟨[u], []⟩ [(x, u)])
    (hsp : ∃ fin, cf f [.sh (.scr ns)] = .ok (.sh (.bl true)) fin) :
    codeAny (model P w) callerA (.call (.ref fa) ⟨[.ref a], []⟩) (fun r s' => r = .ok (.ret (.bool true)) ∧ OldK s₁.heap s'.heap ∧ s'.os = s₁.os ∧ AllBare s'.gens) s₁ := by
  have rv := vals_ints hi
  have lenV := hi.length
  have main : ∀ H : Hp, Only H → SqL K H a (ns.map V.int) → HOk P w H s₁.heap → (∀ b, H b ≠ none → b = a) → (H a ≠ none → K.lookup a = none) →
      codeAny (model P w) callerA (.call (.ref fa) ⟨[.ref a], []⟩) (fun r s' => r = .ok (.ret (.bool true)) ∧ OldK s₁.heap s'.heap ∧ s'.os = s₁.os ∧ AllBare s'.gens) s₁ := by
    intro H hO hS hok hA hK
    have nsK : ∀ {b : Addr} {m : Str → Option Value}, s₁.heap.Ns b m → (hidT s₁.heap H).Ns b m := fun {b m} ⟨o, es, ep, e, d, r⟩ => ⟨o, es, ep, hidT_get e (by
      cases q : H b with
      | none => rfl
      | some u =>
        have e' : b = a := hA b (by rw [q]; simp)
        subst e'; rw [ha] at e; cases e; cases d), d, r⟩
    have hKb : K.In (hidT s₁.heap H) := fun b o e => hidT_get (KX b o e) (by
      cases q : H b with
      | none => rfl
      | some u =>
        have e' : b = a := hA b (by rw [q]; simp)
        subst e'; rw [hK (by rw [q]; simp)] at e; cases e)
    have e0 : Env0 P w K mg (hidT s₁.heap H) callerA [] s₁ H := ⟨rfl, ⟨hKb, nsK hns, ⟨mb, nsK hb, hbb⟩, let ⟨mc, h1, h2⟩ := hlim; ⟨mc, nsK h1, h2⟩⟩, fun b o e => of_hidT e, Nat.le_of_eq (hidT_size _ _), trivial, fun b hb => (by cases hb), hok, .of_eq hg⟩
    obtain ⟨fin, ef⟩ := hsp
    have sp : spI G cf f [.ref a] H (fun v _ => v = .bl true) (fun _ _ _ => False) := by
      refine ⟨H, [.sh (.scr ns)], ⟨rfl, fun _ _ h => h, fun i d h => ?_, fun i d h => ?_, fun i j d1 d2 b hij h1 => ?_, fun b c h => ?_⟩, ?_⟩
      · cases i with
        | zero =>
          have h' : Slot.sh (.scr ns) = .sh d := by simpa using h
          cases h'
          refine ⟨.ref a, rfl, ?_⟩
          unfold Rep
          exact ⟨a, rfl, by rw [hGK]; exact hS⟩
        | succ i => simp at h
      · cases i with
        | zero => rcases h with h | h <;> simp at h
        | succ i => rcases h with h | h <;> simp at h
      · cases i with
        | zero => rcases h1 with h | h <;> simp at h
        | succ i => rcases h1 with h | h <;> simp at h
      · rcases hO b with z | ⟨o, xs, z⟩ <;> (rw [h] at z; cases z)
      · rw [ef]
        intro v F' H' σ' ρ' g hf rr
        unfold ResRep Rep at rr
        exact rr
    refine codeAny_mono ((D _ hKb (nsK hns)).run callerA [] s₁ H ⟨[.ref a], []⟩ [.ref a] [.ref a] _ _ hr e0 (hbind s₁ (.ref a)) (.cons rfl .nil) sp) fun r s' h => ?_
    cases r with
    | error e =>
      obtain ⟨_, _, _, _, _, _, _, _, _, _, _, _, z⟩ := h
      exact z.elim
    | ok fl =>
      cases fl with
      | next => exact h.elim
      | brk => exact h.elim
      | cont => exact h.elim
      | ret u =>
        obtain ⟨v, H', os, bare, un, hok', r', q⟩ := h
        have q' : v = .bl true := q
        subst q'
        obtain rfl : u = Value.bool true := r'
        refine ⟨rfl, OldK.of_keep fun b o e => ?_, os, bare⟩
        cases q : H b with
        | none => exact un.keep b o e q (by intro z; cases z) (by simp)
        | some u =>
          rcases hO b with z | ⟨ob, xs, z⟩
          · rw [q] at z; cases z
          · obtain ⟨e1, _⟩ := hok b _ z
            obtain ⟨e2, _⟩ := hok' b _ (un.frzs b ob _ z)
            rw [e] at e1; cases e1
            exact e2
  cases hk : K.lookup a with
  | some o =>
    have e := KX a o hk
    rw [ha] at e
    cases e
    exact main (fun _ => none) (fun _ => .inl rfl) (.inr ⟨_, vs.toArray, _, hk, rfl, rfl, rfl, by rw [List.size_toArray, lenV]; exact hl, by simpa using rv⟩) (fun b u z => nomatch (show (none : Option HO) = some u from z)) (fun b z => absurd rfl z) fun z => absurd rfl z
  | none =>
    have yes : ∀ {b : Addr} {u : HO}, (if b = a then some (HO.frz { cls := .type "list", data := .seq vs.toArray } (.lst (ns.map V.int))) else none) = some u → b = a ∧ u = .frz { cls := .type "list", data := .seq vs.toArray } (.lst (ns.map V.int)) := fun {b u} h => by
      by_cases c : b = a
      · rw [if_pos c] at h; cases h; exact ⟨c, rfl⟩
      · rw [if_neg c] at h; cases h
    refine main (fun b => if b = a then some (.frz { cls := .type "list", data := .seq vs.toArray } (.lst (ns.map V.int))) else none) (fun b => ?_) (.inl (.inr ⟨{ cls := .type "list", data := .seq vs.toArray }, if_pos rfl⟩)) (fun b u z => ?_) (fun b z => ?_) fun _ => hk
    · by_cases c : b = a
      · exact .inr ⟨_, _, if_pos c⟩
      · exact .inl (if_neg c)
    · obtain ⟨rfl, rfl⟩ := yes z
      exact ⟨ha, by rw [List.length_map]; exact hl, vs, _, rv, ha⟩
    · obtain ⟨u, hu⟩ := Option.ne_none_iff_exists'.mp z
      exact (yes hu).1
/-- the goal that the head leaves -/
theorem walkD {l : PySem.W.OpenLaw} {n k f : Nat} {q : Program} {loose : List Str} {XP : (Str → Option Value) → Heap → Prop} {YP : World → Heap → Prop} {d : DefRec} {K : Params → PySem.W.Frag} {x : Str}
    (hn : l.most = some n) (hn2 : n ≤ sizeLine) (hdf : d.params.defaults = []) (hr : RoomG k callerA)
    (hY : ∀ (w : World) (h : Heap), YP w h → (K w.params).In h)
    (cf : World → CallFn) (G : World → Gx) (hGK : ∀ w, (G w).K = K w.params)
    (F : ∀ (w : World) (mg : Str → Option Value) (fa : Addr) (h : Heap), (K w.params).In h → h.Ns mainGlobals mg → mg d.name = some (.ref fa) →
      ∃ fd : FuncData, (∀ (s : Shared) (u : Value), BindsTo s fd ⟨[u], []⟩ [(x, u)]) ∧
        ∀ base : Heap, (K w.params).In base → base.Ns mainGlobals mg → FnD l.prog w (K w.params) mg base (G w) (cf w) k f fa fd [x])
    (hsp : ∀ (w : World) (ns : List Int), ns.length ≤ n → (∀ z ∈ ns, Builtin.Int.intBits z ≤ 1048576) → ∃ fin, cf w f [.sh (.scr ns)] = .ok (.sh (.bl true)) fin) :
    PySem.W.WalkO q loose XP YP l.row.toRowW d [] (fun f vs => PySem.call f vs) := by
  refine Att.attach_callB hn hdf fun w s₀ s₁ mg mb fa o pm cd doc a vs ns G' Y ho hd hcd hmg hobj hints hlen hbits hg => ?_
  have KX := hY w _ Y
  obtain ⟨fd, hb, hF⟩ := F w mg fa _ KX G'.T.g hmg
  exact law_callD KX G'.T.g G'.T.b G'.T.builtins G'.T.nolimit hg hobj hints (Nat.le_trans hlen hn2) hr (hGK w) hF hb (hsp w ns hlen hbits)
end Dp
namespace Dp
open PySem PySem.Spec PyProof.Rows L2
theorem walkD2 {l : PySem.W.OpenLaw} {n k f : Nat} {q : Program} {loose : List Str} {XP : (Str → Option Value) → Heap → Prop} {YP : World → Heap → Prop} {d : DefRec} {K : Params → PySem.W.Frag} {x : Str} (cf : CallFn)
    (hn : l.most = some n) (hn2 : n ≤ sizeLine) (hdf : d.params.defaults = []) (hr : RoomG k callerA)
    (hY : ∀ (w : World) (h : Heap), YP w h → (K w.params).In h)
    (F : ∀ (w : World) (mg : Str → Option Value) (fa : Addr) (h : Heap), (K w.params).In h → h.Ns mainGlobals mg → mg d.name = some (.ref fa) →
      ∃ (fd : FuncData) (G : Gx), G.K = K w.params ∧ (∀ (s : Shared) (u : Value), BindsTo s fd ⟨[u], []⟩ [(x, u)]) ∧
        ∀ base : Heap, (K w.params).In base → base.Ns mainGlobals mg → FnD l.prog w (K w.params) mg base G cf k f fa fd [x])
    (hsp : ∀ (ns : List Int), ns.length ≤ n → (∀ z ∈ ns, Builtin.Int.intBits z ≤ 1048576) → ∃ fin, cf f [.sh (.scr ns)] = .ok (.sh (.bl true)) fin) :
    PySem.W.WalkO q loose XP YP l.row.toRowW d [] (fun f vs => PySem.call f vs) := by
  refine Att.attach_callB hn hdf fun w s₀ s₁ mg mb fa o pm cd doc a vs ns G' Y ho hd hcd hmg hobj hints hlen hbits hg => ?_
  have KX := hY w _ Y
  obtain ⟨fd, G, hG, hb, hF⟩ := F w mg fa _ KX G'.T.g hmg
  exact law_callD KX G'.T.g G'.T.b G'.T.builtins G'.T.nolimit hg hobj hints (Nat.le_trans hlen hn2) hr hG hF hb (hsp ns hlen hbits)
end Dp
namespace DpX
open PySem PySem.W PySem.Calls PyProof.Rows PySem.HandSPX
theorem errT_mk {prog : Program} {K : Frag} {C S fI : Addr} {nm q : Str} {N : Addr} {bs bm : List Value} {sn : List Str} {sub : List Value} {ab : Bool} {col : Option Bool} {dd : Option Addr} {k0 k1 k2 k3 k5 : Option Value} {oc : Value} {od : Option Addr} {doc pm : Value} {an : Option Addr} {cda cc : Addr} {ct : Value} {osl : Array (Option Value)} {msg : Str} {j : Nat}
    {p1 p2 q1 q2 q3 q4 q5 q6 q7 q8 q9 q10 : Pos} {ccl : Value} {cdd : Option Addr} {vs : Array Value} {ccs : Array (Option Value)} {file : Str} {tf : Tok} {cl : Value} {cld : Option Addr} {csl : Array (Option Value)}
    (xL : K.lookup C = some (excClassObj nm q C N bs bm true sn sub ab col dd k0 k1 k2 k3 k5 "ValueError.__new__")) (sa : findIn K (.ref C) "__setattr__" = some (some (.builtin "object.__setattr__"))) (noV : findIn K (.ref C) "value" = some none) (iC : findIn K (.ref C) "__init__" = some (some (.ref fI))) (vE : subIn K (.ref C) (.type "ValueError") = some true)
    (bl : mroIn K C (.ref S) = some true) (su : ks_superIn K C S "__init__" = some (some (.builtin "ValueError.__init__")))
    (tI : typeIn K (.ref fI) = some (.type "function")) (fn : K.lookup fI = some ⟨oc, od, .func (ksFn "__init__" "SayingError.__init__" (eArgs p1 p2) (eBody msg j q1 q2 q3 q4 q5 q6 q7 q8 q9 q10) eScope .none .none doc pm an (.ref cda) ct cc), osl⟩) (hcd : codeIn K (.ref cda) "SayingError.__init__" = true)
    (hco : K.lookup cda = some ⟨ccl, cdd, .fields vs, ccs⟩) (hce : K.lookup cc = some ⟨cl, cld, .cell (some (.ref S)), csl⟩) (hdS : hasDictIn K S = true) (st : nsIn K cStatics "thirdparty.any" = some none)
    (hvs : vs[2]? = some (.str file tf)) (hfile : ((prog.main.file : Str) == file) = true) (hb : refsVE bm = true) (top : (prog.main.scope.names.lookup ("super" : Str)).isSome = false)
    (hev : ∀ env : Env, ∃ pl : Sem Bool, eval (.Call (.Attribute (.Call (.Name "super" q1) [] [] q2) "__init__" q3) [.Constant (.str msg) j q4] [] q5) env = (do
      let recv ← attributeBase (.Call (.Name "super" q1) [] [] q2) "__init__" env (eval (.Call (.Name "super" q1) [] [] q2) env)
      standAt q3.atName
      let (fn, first) ← holding [recv] (getMethod recv "__init__" pl)
      PySem.callWith q5 fn first (backTo q5 (starEach [.Constant (.str msg) j q4] env)) [])) : ErrT prog K C S fI :=
  ⟨⟨_, _, _, _, _, _, _, _, _, _, _, _, _, _, _, xL, hb⟩, sa, noV, iC, tI, vE, ⟨_, _, _, _, _, _, _, _, _, _, _, _, _, _, _, _, _, _, _, _, _, _, _, fn, hcd, ⟨_, _, _, _, _, _, hco, hvs, hfile⟩, ⟨_, _, _, hce⟩, hev⟩, by obtain ⟨cd, h, _⟩ := any_some hdS; exact ⟨cd, h⟩, bl, st, su, top⟩
theorem kit_ref {K : Frag} {k c : Addr} {b : Bool} (hd : hasDictIn K c = true) (ht : typeIn K (.ref c) = some (.type "type")) (h : subIn K (.ref k) (.ref c) = some b) (hb : (Value.ref k == Value.ref c) = true → b = true) : kitOne K (.ref k) (.ref c) = some b := by
  obtain ⟨cd, hc, _⟩ := any_some hd
  unfold kitOne
  by_cases e : (Value.ref k == Value.ref c) = true
  · rw [if_pos e, hb e]
  · rw [if_neg e]
    have e2 : ((clsIn K c).isSome && typeIn K (.ref c) == some (.type "type")) = true := by rw [hc, ht] <;> rfl
    show (if ((clsIn K c).isSome && typeIn K (.ref c) == some (.type "type")) = true then subIn K (.ref k) (.ref c) else none) = some b
    rw [if_pos e2]; exact h
end DpX
/-! Short words for the derivations. -/
namespace Dp
open PySem PySem.Spec PyProof.Rows L2
theorem fnD_zero {P : Program} {w : World} {K : PySem.W.Frag} {mg : Str → Option Value} {base : Heap} {G : Gx} {p : Pr} {k f : Nat} {fa : Addr} {fd : FuncData} {ps : List Str} : FnD P w K mg base G (callP p 0) k f fa fd ps :=
  ⟨fun vs H Q E ⟨F, ρa, ok, q⟩ => q.elim, fun A outer s H args us vs Q E hr e0 hb r ⟨F, ρa, ok, q⟩ => q.elim⟩
mutual
def nsT : T → List Nat
  | .nm i => [i]
  | .tp ts => nsTs ts
def nsTs : List T → List Nat
  | [] => []
  | t :: ts => nsT t ++ nsTs ts
end
mutual
theorem hasT_in : ∀ {t : T} {j : Nat}, hasT t j = true → j ∈ nsT t
  | .nm i, j, h => by
    unfold hasT at h
    unfold nsT
    simp at h
    simp [h]
  | .tp ts, j, h => by
    unfold hasT at h
    unfold nsT
    exact hasTs_in h
theorem hasTs_in : ∀ {ts : List T} {j : Nat}, hasTs ts j = true → j ∈ nsTs ts
  | [], j, h => by unfold hasTs at h; cases h
  | t :: ts, j, h => by
    unfold hasTs at h
    unfold nsTs
    rw [Bool.or_eq_true] at h
    exact List.mem_append.mpr (h.imp hasT_in hasTs_in)
end
theorem has_sub {t : T} {w : List Nat} (h : (nsT t).all (fun j => w.contains j) = true) : ∀ j, hasT t j = true → j ∈ w := fun j hj => by
  have := List.all_eq_true.mp h j (hasT_in hj)
  simpa using this
section
variable {X : Cx} {G : Gx} {W : Wd} {Wx : WX} {k : Nat}
theorem RoomG.u64 {A : Around} (r : RoomG k A) : A.units + 64 < cLine := r.rm.units
theorem RoomG.u65 {A : Around} (r : RoomG k A) : A.units + 65 < cLine := by have := r.rm.un; omega
theorem RoomG.u100 {A : Around} (r : RoomG k A) : A.units + 100 < cLine := by have := r.rm.un; omega
variable {e : Expr} {e' : E} {x : Str} {pos pos' : Pos}
theorem gn (i : Nat) (hN : X.N.Nodup) (hi : X.N[i]? = some x := by rfl) (hx : Loc X.env.scope x := by first | exact Or.inl rfl | exact Or.inr rfl) (hf : X.fn x = true ∨ X.env.scope.names.lookup x = some .local := by first | exact .inl rfl | exact .inr rfl) : PG X (.Name x pos) (rdG G (.nm i)) := g_nm hN hi hx hf
theorem ss (i : Nat) (hN : X.N.Nodup) (he : PE X e (rdE G W Wx e')) (hi : X.N[i]? = some x := by rfl) (hx : Loc X.env.scope x := by first | exact Or.inl rfl | exact Or.inr rfl) (hs : swapsWith e (some (.Name x pos')) pos.line X.env = pure false := by rfl)
    (hf : X.fn x = true ∨ X.env.scope.names.lookup x = some .local := by first | exact .inl rfl | exact .inr rfl) : PS X (.Assign [.Name x pos'] e pos) (rdS G W Wx (.set i e')) := s_set hN hi hx he hs hf
theorem sa (i : Nat) {op : Operator} {bo : BOp} (hN : X.N.Nodup) (ho : PIp X op (ipA bo)) (he : PE X e (rdE G W Wx e')) (hi : X.N[i]? = some x := by rfl) (hx : Loc X.env.scope x := by first | exact Or.inl rfl | exact Or.inr rfl)
    (hf : X.fn x = true ∨ X.env.scope.names.lookup x = some .local := by first | exact .inl rfl | exact .inr rfl) : PS X (.AugAssign (.Name x pos') op e pos) (rdS G W Wx (.aug bo i e')) := s_aug hN hi hx ho he hf
theorem vs (i : Nat) (hN : X.N[i]? = some x := by rfl) (hv : Vis X.env.scope x := by first | exact Or.inl rfl | exact Or.inr (Or.inl rfl) | exact Or.inr (Or.inr rfl)) (hd : (x == ("__debug__" : Str)) = false := by decide) (hcd : (x == ("__classdict__" : Str)) = false := by decide) : PE X (.Name x pos) (rdE G W Wx (.slot i)) := c_slot (pe_var hN hv hd hcd)
theorem vm (i : Nat) (hN : X.N[i]? = some x := by rfl) (hv : Vis X.env.scope x := by first | exact Or.inl rfl | exact Or.inr (Or.inl rfl) | exact Or.inr (Or.inr rfl)) (hd : (x == ("__debug__" : Str)) = false := by decide) (hcd : (x == ("__classdict__" : Str)) = false := by decide) : PE X (.Name x pos) (rdE G W Wx (.mv i)) := c_mv (pe_var hN hv hd hcd)
theorem vk (i : Nat) (hN : X.N[i]? = some x := by rfl) (hv : Vis X.env.scope x := by first | exact Or.inl rfl | exact Or.inr (Or.inl rfl) | exact Or.inr (Or.inr rfl)) (hd : (x == ("__debug__" : Str)) = false := by decide) (hcd : (x == ("__classdict__" : Str)) = false := by decide) : PE X (.Name x pos) (rdP G W Wx (.slot i)) := pk_slot (pe_var hN hv hd hcd)
theorem c_glE {d : D} (h : ∃ u, X.mg x = some u ∧ ∃ v, RelV v u ∧ ∀ F, Rep G F d v) (hg : Gl X x := by rfl) (hd : (x == ("__debug__" : Str)) = false := by decide) : PE X (.Name x pos) (rdE G W Wx (.cst d)) := by
  obtain ⟨u, h1, h2⟩ := h
  exact c_glob h1 h2 hg hd
end
end Dp
/-! The small language reckoned step by step: each form by a named rest, so that what is not known yet stays whole. -/
namespace Dp
open PySem
/-- what a def's body comes to, as a call's answer -/
def finR (np : Nat) : XR → CR
  | .nx ρ => .ok (.sh .non) ((ρ.take np).map keepIo)
  | .rt r ρ => .ok r ((ρ.take np).map keepIo)
  | .exc c d _ => .exc c d
  | _ => .bad
theorem callP_at {p : Pr} {n f : Nat} {ss : Rho} (df : Def) (h : p.defs f = some df) (hl : ss.length = df.np) :
    callP p (n + 1) f ss = finR df.np (exs (p.wd (callP p n)) df.body (ss ++ List.replicate (df.ns - df.np) .no)) := by
  simp only [callP, h, hl, if_true]
  cases exs (p.wd (callP p n)) df.body (ss ++ List.replicate (df.ns - df.np) .no) <;> rfl
theorem callP_ge {p : Pr} {m f : Nat} (k : Nat) {ss : Rho} {c : CR} (hm : k + 1 ≤ m) (h : ∀ n, k ≤ n → callP p (n + 1) f ss = c) : callP p m f ss = c := by
  obtain ⟨n, rfl⟩ : ∃ n, m = n + 1 := ⟨m - 1, by omega⟩
  exact h n (by omega)
/-- a def's body entered -/
theorem ent {p : Pr} {m f : Nat} {ss : Rho} {c : CR} (k : Nat) (df : Def) (h : p.defs f = some df) (hl : ss.length = df.np) (hm : k + 1 ≤ m)
    (g : ∀ n, k ≤ n → finR df.np (exs (p.wd (callP p n)) df.body (ss ++ List.replicate (df.ns - df.np) .no)) = c) : callP p m f ss = c :=
  callP_ge k hm fun n hn => (callP_at df h hl).trans (g n hn)
@[simp] theorem finR_1 (n : Nat) (ρ : Rho) : finR n (.nx ρ) = .ok (.sh .non) ((ρ.take n).map keepIo) := rfl
@[simp] theorem finR_2 (n : Nat) (r : Res) (ρ : Rho) : finR n (.rt r ρ) = .ok r ((ρ.take n).map keepIo) := rfl
@[simp] theorem finR_3 (n : Nat) (c : Nat) (d : D) (ρ : Rho) : finR n (.exc c d ρ) = .exc c d := rfl
@[simp] theorem finR_4 (n : Nat) : finR n .bad = .bad := rfl
@[simp] theorem keepIo_1 (d : D) : keepIo (.io d) = .io d := rfl
@[simp] theorem keepIo_2 (d : D) : keepIo (.sh d) = .no := rfl
@[simp] theorem keepIo_3 (d : D) : keepIo (.ow d) = .no := rfl
@[simp] theorem keepIo_4 : keepIo .no = .no := rfl
/-- a slot of which only its being no lent one is known -/
abbrev J := Option Res
def jS : J → Slot
  | none => .no | some r => r.slot
@[simp] theorem keepIo_j (q : J) : keepIo (jS q) = .no := by cases q with
  | none => rfl
  | some r => cases r <;> rfl
theorem jS_0 : jS none = .no := rfl
theorem jS_1 (d : D) : jS (some (.sh d)) = .sh d := rfl
theorem jS_2 (d : D) : jS (some (.fr d)) = .ow d := rfl
@[simp] theorem slot_1 (d : D) : (Res.sh d).slot = .sh d := rfl
@[simp] theorem slot_2 (d : D) : (Res.fr d).slot = .ow d := rfl
@[simp] theorem resd_1 (d : D) : (Res.sh d).d = d := rfl
@[simp] theorem resd_2 (d : D) : (Res.fr d).d = d := rfl
/-! ### lists of slots -/
@[simp] theorem wd_1 (p : Pr) (cf : CallFn) : (p.wd cf).cf = cf := rfl
@[simp] theorem wd_2 (p : Pr) (cf : CallFn) : (p.wd cf).meth = p.meth := rfl
@[simp] theorem wd_3 (p : Pr) (cf : CallFn) : (p.wd cf).init = p.init := rfl
@[simp] theorem wd_4 (p : Pr) (cf : CallFn) : (p.wd cf).sub = p.sub := rfl
@[simp] theorem wd_5 (p : Pr) (cf : CallFn) : (p.wd cf).fok = p.fok := rfl
@[simp] theorem wd_6 (p : Pr) (cf : CallFn) : (p.wd cf).eok = p.eok := rfl
/-! ### reading -/
def kRead (ρ : Rho) (i : Nat) : Option Slot → R (Res × Rho)
  | some (.sh d) => .ok (.sh d, ρ) | some (.ow d) => .ok (.sh d, ρ.set i (.sh d)) | _ => .bad
@[simp] theorem kRead_1 (ρ : Rho) (i : Nat) (d : D) : kRead ρ i (some (.sh d)) = .ok (.sh d, ρ) := rfl
@[simp] theorem kRead_2 (ρ : Rho) (i : Nat) (d : D) : kRead ρ i (some (.ow d)) = .ok (.sh d, ρ.set i (.sh d)) := rfl
def kMove (ρ : Rho) (i : Nat) : Option Slot → R (Res × Rho)
  | some (.sh d) => .ok (.sh d, ρ) | some (.ow d) => .ok (.fr d, ρ.set i .no) | _ => .bad
@[simp] theorem kMove_1 (ρ : Rho) (i : Nat) (d : D) : kMove ρ i (some (.sh d)) = .ok (.sh d, ρ) := rfl
@[simp] theorem kMove_2 (ρ : Rho) (i : Nat) (d : D) : kMove ρ i (some (.ow d)) = .ok (.fr d, ρ.set i .no) := rfl
def kOp (ρ : Rho) (i : Nat) : Option Slot → R (Opd × Rho)
  | some .no => .bad | some _ => .ok (.at i, ρ) | none => .bad
@[simp] theorem kOp_1 (ρ : Rho) (i : Nat) (d : D) : kOp ρ i (some (.sh d)) = .ok (.at i, ρ) := rfl
@[simp] theorem kOp_2 (ρ : Rho) (i : Nat) (d : D) : kOp ρ i (some (.ow d)) = .ok (.at i, ρ) := rfl
@[simp] theorem kOp_3 (ρ : Rho) (i : Nat) (d : D) : kOp ρ i (some (.io d)) = .ok (.at i, ρ) := rfl
def kVal : R (Res × Rho) → R (Opd × Rho)
  | .ok (r, ρ) => .ok (.val r.d, ρ) | .exc c d ρ => .exc c d ρ | .bad => .bad
@[simp] theorem kVal_1 (r : Res) (ρ : Rho) : kVal (.ok (r, ρ)) = .ok (.val r.d, ρ) := rfl
@[simp] theorem kVal_2 (c : Nat) (d : D) (ρ : Rho) : kVal (.exc c d ρ) = .exc c d ρ := rfl
def kCont : Option Slot → Option D
  | some s => s.cont | none => none
@[simp] theorem kCont_1 (d : D) : kCont (some (.sh d)) = some d := rfl
@[simp] theorem kCont_2 (d : D) : kCont (some (.ow d)) = some d := rfl
@[simp] theorem kCont_3 (d : D) : kCont (some (.io d)) = some d := rfl
@[simp] theorem get_1 (ρ : Rho) (i : Nat) : (Opd.at i).get ρ = kCont ρ[i]? := by
  simp only [Opd.get]; cases h : ρ[i]? <;> rfl
@[simp] theorem get_2 (ρ : Rho) (d : D) : (Opd.val d).get ρ = some d := rfl
@[simp] theorem aget_1 (ρ : Rho) (r : Res) : (AV.sh r).get ρ = some r.d := rfl
@[simp] theorem aget_2 (ρ : Rho) (i : Nat) : (AV.io i).get ρ = kCont ρ[i]? := get_1 ρ i
def kRes (ρ : Rho) : Option Res → R (Res × Rho)
  | some r => .ok (r, ρ) | none => .bad
@[simp] theorem kRes_1 (ρ : Rho) (r : Res) : kRes ρ (some r) = .ok (r, ρ) := rfl
def kB : Option Bool → Option Res
  | some b => some (.sh (.bl b)) | none => none
@[simp] theorem kB_1 (b : Bool) : kB (some b) = some (.sh (.bl b)) := rfl
def kD : Option D → Option Res
  | some d => some (.sh d) | none => none
@[simp] theorem kD_1 (d : D) : kD (some d) = some (.sh d) := rfl
/-! operators with one operand -/
def k1 (F : D → Option Res) (ρ : Rho) : Option D → R (Res × Rho)
  | some d => kRes ρ (F d) | none => .bad
@[simp] theorem k1_1 (F : D → Option Res) (ρ : Rho) (d : D) : k1 F ρ (some d) = kRes ρ (F d) := rfl
def o1 (F : D → Option Res) : R (Opd × Rho) → R (Res × Rho)
  | .ok (x, ρ) => k1 F ρ (x.get ρ) | .exc c d ρ => .exc c d ρ | .bad => .bad
@[simp] theorem o1_1 (F : D → Option Res) (x : Opd) (ρ : Rho) : o1 F (.ok (x, ρ)) = k1 F ρ (x.get ρ) := rfl
@[simp] theorem o1_2 (F : D → Option Res) (c : Nat) (d : D) (ρ : Rho) : o1 F (.exc c d ρ) = .exc c d ρ := rfl
def negF : D → Option Res
  | .int i => some (.sh (.int (-i))) | _ => none
def notF : D → Option Res
  | .bl b => some (.sh (.bl (!b))) | _ => none
def fldF (W : Wd) (f : Nat) (d : D) : Option Res := kD (fldD W.fok W.eok f d)
def isiF (W : Wd) (t : Ty) (d : D) : Option Res := kB (tyIs W.sub d t)
def revF : D → Option Res
  | .lst xs => some (.fr (.lst xs.reverse)) | _ => none
@[simp] theorem negF_1 (i : Int) : negF (.int i) = some (.sh (.int (-i))) := rfl
@[simp] theorem notF_1 (b : Bool) : notF (.bl b) = some (.sh (.bl (!b))) := rfl
@[simp] theorem fldF_1 (W : Wd) (f : Nat) (d : D) : fldF W f d = kD (fldD W.fok W.eok f d) := rfl
@[simp] theorem isiF_1 (W : Wd) (t : Ty) (d : D) : isiF W t d = kB (tyIs W.sub d t) := rfl
@[simp] theorem revF_1 (xs : List D) : revF (.lst xs) = some (.fr (.lst xs.reverse)) := rfl
/-! operators with two -/
def k2 (F : D → D → Option Res) (ρ : Rho) : Option D → Option D → R (Res × Rho)
  | some d, some e => kRes ρ (F d e) | _, _ => .bad
@[simp] theorem k2_1 (F : D → D → Option Res) (ρ : Rho) (d e : D) : k2 F ρ (some d) (some e) = kRes ρ (F d e) := rfl
def o2b (F : D → D → Option Res) (x : Opd) : R (Opd × Rho) → R (Res × Rho)
  | .ok (y, ρ) => k2 F ρ (x.get ρ) (y.get ρ) | .exc c d ρ => .exc c d ρ | .bad => .bad
@[simp] theorem o2b_1 (F : D → D → Option Res) (x y : Opd) (ρ : Rho) : o2b F x (.ok (y, ρ)) = k2 F ρ (x.get ρ) (y.get ρ) := rfl
@[simp] theorem o2b_2 (F : D → D → Option Res) (x : Opd) (c : Nat) (d : D) (ρ : Rho) : o2b F x (.exc c d ρ) = .exc c d ρ := rfl
def o2 (W : Wd) (F : D → D → Option Res) (b : E) : R (Opd × Rho) → R (Res × Rho)
  | .ok (x, ρ) => o2b F x (pk b (ev W b) ρ) | .exc c d ρ => .exc c d ρ | .bad => .bad
@[simp] theorem o2_1 (W : Wd) (F : D → D → Option Res) (b : E) (x : Opd) (ρ : Rho) : o2 W F b (.ok (x, ρ)) = o2b F x (pk b (ev W b) ρ) := rfl
@[simp] theorem o2_2 (W : Wd) (F : D → D → Option Res) (b : E) (c : Nat) (d : D) (ρ : Rho) : o2 W F b (.exc c d ρ) = .exc c d ρ := rfl
def cmpF (op : COp) (d e : D) : Option Res := kB (cop op d e)
def idxF (d e : D) : Option Res := kD (ixD d e)
@[simp] theorem cmpF_1 (op : COp) (d e : D) : cmpF op d e = kB (cop op d e) := rfl
@[simp] theorem idxF_1 (d e : D) : idxF d e = kD (ixD d e) := rfl
/-! and, or, if -/
def andK (W : Wd) (b : E) (ρ : Rho) : Option D → R (Res × Rho)
  | some (.bl true) => ev W b ρ | some (.bl false) => .ok (.sh (.bl false), ρ) | _ => .bad
@[simp] theorem andK_1 (W : Wd) (b : E) (ρ : Rho) : andK W b ρ (some (.bl true)) = ev W b ρ := rfl
@[simp] theorem andK_2 (W : Wd) (b : E) (ρ : Rho) : andK W b ρ (some (.bl false)) = .ok (.sh (.bl false), ρ) := rfl
def orK (W : Wd) (b : E) (ρ : Rho) : Option D → R (Res × Rho)
  | some (.bl false) => ev W b ρ | some (.bl true) => .ok (.sh (.bl true), ρ) | _ => .bad
@[simp] theorem orK_1 (W : Wd) (b : E) (ρ : Rho) : orK W b ρ (some (.bl false)) = ev W b ρ := rfl
@[simp] theorem orK_2 (W : Wd) (b : E) (ρ : Rho) : orK W b ρ (some (.bl true)) = .ok (.sh (.bl true), ρ) := rfl
def iteK (W : Wd) (a b : E) (ρ : Rho) : Option D → R (Res × Rho)
  | some (.bl true) => ev W a ρ | some (.bl false) => ev W b ρ | _ => .bad
@[simp] theorem iteK_1 (W : Wd) (a b : E) (ρ : Rho) : iteK W a b ρ (some (.bl true)) = ev W a ρ := rfl
@[simp] theorem iteK_2 (W : Wd) (a b : E) (ρ : Rho) : iteK W a b ρ (some (.bl false)) = ev W b ρ := rfl
def andO (W : Wd) (b : E) : R (Opd × Rho) → R (Res × Rho)
  | .ok (x, ρ) => andK W b ρ (x.get ρ) | .exc c d ρ => .exc c d ρ | .bad => .bad
@[simp] theorem andO_1 (W : Wd) (b : E) (x : Opd) (ρ : Rho) : andO W b (.ok (x, ρ)) = andK W b ρ (x.get ρ) := rfl
@[simp] theorem andO_2 (W : Wd) (b : E) (c : Nat) (d : D) (ρ : Rho) : andO W b (.exc c d ρ) = .exc c d ρ := rfl
def orO (W : Wd) (b : E) : R (Opd × Rho) → R (Res × Rho)
  | .ok (x, ρ) => orK W b ρ (x.get ρ) | .exc c d ρ => .exc c d ρ | .bad => .bad
@[simp] theorem orO_1 (W : Wd) (b : E) (x : Opd) (ρ : Rho) : orO W b (.ok (x, ρ)) = orK W b ρ (x.get ρ) := rfl
@[simp] theorem orO_2 (W : Wd) (b : E) (c : Nat) (d : D) (ρ : Rho) : orO W b (.exc c d ρ) = .exc c d ρ := rfl
def iteO (W : Wd) (a b : E) : R (Opd × Rho) → R (Res × Rho)
  | .ok (x, ρ) => iteK W a b ρ (x.get ρ) | .exc c d ρ => .exc c d ρ | .bad => .bad
@[simp] theorem iteO_1 (W : Wd) (a b : E) (x : Opd) (ρ : Rho) : iteO W a b (.ok (x, ρ)) = iteK W a b ρ (x.get ρ) := rfl
@[simp] theorem iteO_2 (W : Wd) (a b : E) (c : Nat) (d : D) (ρ : Rho) : iteO W a b (.exc c d ρ) = .exc c d ρ := rfl
/-! a chain -/
def chK (W : Wd) (op' : COp) (y : Opd) (c : E) (ρ : Rho) : Option Bool → R (Res × Rho)
  | some false => .ok (.sh (.bl false), ρ)
  | some true => o2b (cmpF op') y (pk c (ev W c) ρ)
  | none => .bad
@[simp] theorem chK_1 (W : Wd) (op' : COp) (y : Opd) (c : E) (ρ : Rho) : chK W op' y c ρ (some false) = .ok (.sh (.bl false), ρ) := rfl
@[simp] theorem chK_2 (W : Wd) (op' : COp) (y : Opd) (c : E) (ρ : Rho) : chK W op' y c ρ (some true) = o2b (cmpF op') y (pk c (ev W c) ρ) := rfl
def chG (W : Wd) (op op' : COp) (y : Opd) (c : E) (ρ : Rho) : Option D → Option D → R (Res × Rho)
  | some d, some e => chK W op' y c ρ (cop op d e) | _, _ => .bad
@[simp] theorem chG_1 (W : Wd) (op op' : COp) (y : Opd) (c : E) (ρ : Rho) (d e : D) : chG W op op' y c ρ (some d) (some e) = chK W op' y c ρ (cop op d e) := rfl
def chO2 (W : Wd) (op op' : COp) (x : Opd) (c : E) : R (Opd × Rho) → R (Res × Rho)
  | .ok (y, ρ) => chG W op op' y c ρ (x.get ρ) (y.get ρ) | .exc c d ρ => .exc c d ρ | .bad => .bad
@[simp] theorem chO2_1 (W : Wd) (op op' : COp) (x : Opd) (c : E) (y : Opd) (ρ : Rho) : chO2 W op op' x c (.ok (y, ρ)) = chG W op op' y c ρ (x.get ρ) (y.get ρ) := rfl
def chO (W : Wd) (op op' : COp) (b c : E) : R (Opd × Rho) → R (Res × Rho)
  | .ok (x, ρ) => chO2 W op op' x c (pk b (ev W b) ρ) | .exc c d ρ => .exc c d ρ | .bad => .bad
@[simp] theorem chO_1 (W : Wd) (op op' : COp) (b c : E) (x : Opd) (ρ : Rho) : chO W op op' b c (.ok (x, ρ)) = chO2 W op op' x c (pk b (ev W b) ρ) := rfl
/-! slices -/
def slK (l h : Option Int) (ρ : Rho) : Option D → R (Res × Rho)
  | some d => kRes ρ (cutD d l h) | none => .bad
@[simp] theorem slK_1 (l h : Option Int) (ρ : Rho) (d : D) : slK l h ρ (some d) = kRes ρ (cutD d l h) := rfl
def slO3 (x : Opd) (l : Option Int) : R (Option Int × Rho) → R (Res × Rho)
  | .ok (h, ρ) => slK l h ρ (x.get ρ) | .exc c d ρ => .exc c d ρ | .bad => .bad
@[simp] theorem slO3_1 (x : Opd) (l h : Option Int) (ρ : Rho) : slO3 x l (.ok (h, ρ)) = slK l h ρ (x.get ρ) := rfl
def slO2 (W : Wd) (hi : Option E) (x : Opd) : R (Option Int × Rho) → R (Res × Rho)
  | .ok (l, ρ) => slO3 x l (evO W hi ρ) | .exc c d ρ => .exc c d ρ | .bad => .bad
@[simp] theorem slO2_1 (W : Wd) (hi : Option E) (x : Opd) (l : Option Int) (ρ : Rho) : slO2 W hi x (.ok (l, ρ)) = slO3 x l (evO W hi ρ) := rfl
def slO (W : Wd) (lo hi : Option E) : R (Opd × Rho) → R (Res × Rho)
  | .ok (x, ρ) => slO2 W hi x (evO W lo ρ) | .exc c d ρ => .exc c d ρ | .bad => .bad
@[simp] theorem slO_1 (W : Wd) (lo hi : Option E) (x : Opd) (ρ : Rho) : slO W lo hi (.ok (x, ρ)) = slO2 W hi x (evO W lo ρ) := rfl
def kInt : R (Res × Rho) → R (Option Int × Rho)
  | .ok (.sh (.int i), ρ) => .ok (some i, ρ) | .exc c d ρ => .exc c d ρ | _ => .bad
@[simp] theorem kInt_1 (i : Int) (ρ : Rho) : kInt (.ok (.sh (.int i), ρ)) = .ok (some i, ρ) := rfl
/-! lists of expressions -/
def kL2 (r : Res) : R (List D × Rho) → R (List D × Rho)
  | .ok (ds, ρ) => .ok (r.d :: ds, ρ) | .exc c d ρ => .exc c d ρ | .bad => .bad
@[simp] theorem kL2_1 (r : Res) (ds : List D) (ρ : Rho) : kL2 r (.ok (ds, ρ)) = .ok (r.d :: ds, ρ) := rfl
@[simp] theorem kL2_2 (r : Res) (c : Nat) (d : D) (ρ : Rho) : kL2 r (.exc c d ρ) = .exc c d ρ := rfl
def kL1 (W : Wd) (es : List E) : R (Res × Rho) → R (List D × Rho)
  | .ok (r, ρ) => kL2 r (evL W es ρ) | .exc c d ρ => .exc c d ρ | .bad => .bad
@[simp] theorem kL1_1 (W : Wd) (es : List E) (r : Res) (ρ : Rho) : kL1 W es (.ok (r, ρ)) = kL2 r (evL W es ρ) := rfl
@[simp] theorem kL1_2 (W : Wd) (es : List E) (c : Nat) (d : D) (ρ : Rho) : kL1 W es (.exc c d ρ) = .exc c d ρ := rfl
def kP2 (x : Opd) : R (List Opd × Rho) → R (List Opd × Rho)
  | .ok (xs, ρ) => .ok (x :: xs, ρ) | .exc c d ρ => .exc c d ρ | .bad => .bad
@[simp] theorem kP2_1 (x : Opd) (xs : List Opd) (ρ : Rho) : kP2 x (.ok (xs, ρ)) = .ok (x :: xs, ρ) := rfl
def kP1 (W : Wd) (es : List E) : R (Opd × Rho) → R (List Opd × Rho)
  | .ok (x, ρ) => kP2 x (evPs W es ρ) | .exc c d ρ => .exc c d ρ | .bad => .bad
@[simp] theorem kP1_1 (W : Wd) (es : List E) (x : Opd) (ρ : Rho) : kP1 W es (.ok (x, ρ)) = kP2 x (evPs W es ρ) := rfl
@[simp] theorem kP1_2 (W : Wd) (es : List E) (c : Nat) (d : D) (ρ : Rho) : kP1 W es (.exc c d ρ) = .exc c d ρ := rfl
def kA2 (x : AV) : R (List AV × Rho) → R (List AV × Rho)
  | .ok (xs, ρ) => .ok (x :: xs, ρ) | .exc c d ρ => .exc c d ρ | .bad => .bad
@[simp] theorem kA2_1 (x : AV) (xs : List AV) (ρ : Rho) : kA2 x (.ok (xs, ρ)) = .ok (x :: xs, ρ) := rfl
@[simp] theorem kA2_2 (x : AV) (c : Nat) (d : D) (ρ : Rho) : kA2 x (.exc c d ρ) = .exc c d ρ := rfl
def kA1 (W : Wd) (as : List Ar) : R (AV × Rho) → R (List AV × Rho)
  | .ok (x, ρ) => kA2 x (evA W as ρ) | .exc c d ρ => .exc c d ρ | .bad => .bad
@[simp] theorem kA1_1 (W : Wd) (as : List Ar) (x : AV) (ρ : Rho) : kA1 W as (.ok (x, ρ)) = kA2 x (evA W as ρ) := rfl
@[simp] theorem kA1_2 (W : Wd) (as : List Ar) (c : Nat) (d : D) (ρ : Rho) : kA1 W as (.exc c d ρ) = .exc c d ρ := rfl
def kSh : R (Res × Rho) → R (AV × Rho)
  | .ok (r, ρ) => .ok (.sh (.sh r.d), ρ) | .exc c d ρ => .exc c d ρ | .bad => .bad
@[simp] theorem kSh_1 (r : Res) (ρ : Rho) : kSh (.ok (r, ρ)) = .ok (.sh (.sh r.d), ρ) := rfl
@[simp] theorem kSh_2 (c : Nat) (d : D) (ρ : Rho) : kSh (.exc c d ρ) = .exc c d ρ := rfl
def kIo (ρ : Rho) (i : Nat) : Option Slot → R (AV × Rho)
  | some .no => .bad | some _ => .ok (.io i, ρ) | none => .bad
@[simp] theorem kIo_1 (ρ : Rho) (i : Nat) (d : D) : kIo ρ i (some (.sh d)) = .ok (.io i, ρ) := rfl
@[simp] theorem kIo_2 (ρ : Rho) (i : Nat) (d : D) : kIo ρ i (some (.ow d)) = .ok (.io i, ρ) := rfl
@[simp] theorem kIo_3 (ρ : Rho) (i : Nat) (d : D) : kIo ρ i (some (.io d)) = .ok (.io i, ρ) := rfl
def kTup : R (List D × Rho) → R (Res × Rho)
  | .ok (ds, ρ) => if okLen ds.length then .ok (.sh (.tup ds), ρ) else .bad
  | .exc c d ρ => .exc c d ρ | .bad => .bad
theorem okLen_lt {n : Nat} (h : n ≤ 1000) : okLen n = true := by simp only [okLen, decide_eq_true_eq]; omega
def kLst : R (List D × Rho) → R (Res × Rho)
  | .ok (ds, ρ) => if okLen ds.length then .ok (.fr (.lst ds), ρ) else .bad
  | .exc c d ρ => .exc c d ρ | .bad => .bad
@[simp] theorem kTup_1 (ds : List D) (ρ : Rho) : kTup (.ok (ds, ρ)) = if okLen ds.length then .ok (.sh (.tup ds), ρ) else .bad := rfl
@[simp] theorem kTup_2 (c : Nat) (d : D) (ρ : Rho) : kTup (.exc c d ρ) = .exc c d ρ := rfl
@[simp] theorem kLst_1 (ds : List D) (ρ : Rho) : kLst (.ok (ds, ρ)) = if okLen ds.length then .ok (.fr (.lst ds), ρ) else .bad := rfl
@[simp] theorem kLst_2 (c : Nat) (d : D) (ρ : Rho) : kLst (.exc c d ρ) = .exc c d ρ := rfl
/-! calls -/
def cwR (ρ : Rho) (as : List AV) : CR → R (Res × Rho)
  | .ok r fin => match avBack ρ as fin with
    | some ρ' => .ok (r, ρ') | none => .bad
  | .exc c d => match avLost ρ as with
    | some ρ' => .exc c d ρ' | none => .bad
  | .bad => .bad
def cwB (r : Res) : Option Rho → R (Res × Rho)
  | some ρ => .ok (r, ρ) | none => .bad
def cwE (c : Nat) (d : D) : Option Rho → R (Res × Rho)
  | some ρ => .exc c d ρ | none => .bad
@[simp] theorem cwB_1 (r : Res) (ρ : Rho) : cwB r (some ρ) = .ok (r, ρ) := rfl
@[simp] theorem cwE_1 (c : Nat) (d : D) (ρ : Rho) : cwE c d (some ρ) = .exc c d ρ := rfl
@[simp] theorem cwR_1 (ρ : Rho) (as : List AV) (r : Res) (fin : Rho) : cwR ρ as (.ok r fin) = cwB r (avBack ρ as fin) := by
  simp only [cwR]; cases avBack ρ as fin <;> rfl
@[simp] theorem cwR_2 (ρ : Rho) (as : List AV) (c : Nat) (d : D) : cwR ρ as (.exc c d) = cwE c d (avLost ρ as) := by
  simp only [cwR]; cases avLost ρ as <;> rfl
def cwO (cf : CallFn) (f : Nat) (as : List AV) (ρ : Rho) : Option Rho → R (Res × Rho)
  | some ss => cwR ρ as (cf f ss)
  | none => .bad
@[simp] theorem cwO_1 (cf : CallFn) (f : Nat) (as : List AV) (ρ ss : Rho) : cwO cf f as ρ (some ss) = cwR ρ as (cf f ss) := rfl
def ndO : Bool → R (Res × Rho) → R (Res × Rho)
  | true, x => x
  | false, _ => .bad
@[simp] theorem ndO_1 (x : R (Res × Rho)) : ndO true x = x := rfl
@[simp] theorem q_cw (cf : CallFn) (f : Nat) (as : List AV) (ρ : Rho) : Dp.callWith cf f as ρ = ndO (noDup as) (cwO cf f as ρ (avSlots ρ as)) := by
  unfold Dp.callWith
  cases h : noDup as with
  | false => rfl
  | true =>
    rw [if_pos rfl]
    cases hs : avSlots ρ as with
    | none => rfl
    | some ss =>
      simp only [ndO, cwO]
      cases hc : cf f ss with
      | ok r fin => simp only [cwR]; try (cases avBack ρ as fin <;> rfl)
      | exc c d => rfl
      | bad => rfl
@[simp] theorem nd_1 : noDup [] = true := rfl
@[simp] theorem nd_2 (r : Res) (l : List AV) : noDup (.sh r :: l) = noDup l := rfl
def noIo (i : Nat) : List AV → Bool
  | [] => true | .sh _ :: l => noIo i l | .io j :: l => (i != j) && noIo i l
@[simp] theorem noIo_1 (i : Nat) : noIo i [] = true := rfl
@[simp] theorem noIo_2 (i : Nat) (r : Res) (l : List AV) : noIo i (.sh r :: l) = noIo i l := rfl
@[simp] theorem noIo_3 (i j : Nat) (l : List AV) : noIo i (.io j :: l) = ((i != j) && noIo i l) := rfl
@[simp] theorem nd_3 (i : Nat) (l : List AV) : noDup (.io i :: l) = (noIo i l && noDup l) := by
  simp only [noDup]; congr 1
  induction l with
  | nil => rfl
  | cons a l ih =>
    cases a with
    | sh r => simpa [List.any_cons] using ih
    | io j => simp only [List.any_cons, Bool.not_or, noIo_3, ih]; rfl
def kCons (s : Slot) : Option Rho → Option Rho
  | some l => some (s :: l) | none => none
@[simp] theorem kCons_1 (s : Slot) (l : Rho) : kCons s (some l) = some (s :: l) := rfl
def kIoS (ρ : Rho) (r' : List AV) : Option Slot → Option Rho
  | some (.ow d) => kCons (.io d) (avSlots ρ r')
  | some (.io d) => kCons (.io d) (avSlots ρ r')
  | _ => none
@[simp] theorem kIoS_1 (ρ : Rho) (r' : List AV) (d : D) : kIoS ρ r' (some (.ow d)) = kCons (.io d) (avSlots ρ r') := rfl
@[simp] theorem kIoS_2 (ρ : Rho) (r' : List AV) (d : D) : kIoS ρ r' (some (.io d)) = kCons (.io d) (avSlots ρ r') := rfl
@[simp] theorem avS_1 (ρ : Rho) : avSlots ρ [] = some [] := rfl
@[simp] theorem avS_2 (ρ : Rho) (r : Res) (l : List AV) : avSlots ρ (.sh r :: l) = kCons r.slot (avSlots ρ l) := by
  rw [avSlots]; cases avSlots ρ l <;> rfl
@[simp] theorem avS_3 (ρ : Rho) (i : Nat) (l : List AV) : avSlots ρ (.io i :: l) = kIoS ρ l ρ[i]? := by
  rw [avSlots]; cases h : ρ[i]? with
  | none => rfl
  | some s => cases s with
    | no => rfl
    | sh d => rfl
    | ow d => simp only [kIoS]; cases avSlots ρ l <;> rfl
    | io d => simp only [kIoS]; cases avSlots ρ l <;> rfl
def kBk (ρ : Rho) (i : Nat) (d : D) (r : List AV) (fin : Rho) : Option Slot → Option Rho
  | some (.ow _) => avBack (ρ.set i (.ow d)) r fin
  | some (.io _) => avBack (ρ.set i (.io d)) r fin
  | _ => none
@[simp] theorem kBk_1 (ρ : Rho) (i : Nat) (d : D) (r : List AV) (fin : Rho) (e : D) : kBk ρ i d r fin (some (.ow e)) = avBack (ρ.set i (.ow d)) r fin := rfl
@[simp] theorem kBk_2 (ρ : Rho) (i : Nat) (d : D) (r : List AV) (fin : Rho) (e : D) : kBk ρ i d r fin (some (.io e)) = avBack (ρ.set i (.io d)) r fin := rfl
@[simp] theorem avB_1 (ρ fin : Rho) : avBack ρ [] fin = some ρ := by cases fin <;> rfl
@[simp] theorem avB_2 (ρ : Rho) (r : Res) (l : List AV) (s : Slot) (fin : Rho) : avBack ρ (.sh r :: l) (s :: fin) = avBack ρ l fin := rfl
@[simp] theorem avB_3 (ρ : Rho) (i : Nat) (l : List AV) (d : D) (fin : Rho) : avBack ρ (.io i :: l) (.io d :: fin) = kBk ρ i d l fin ρ[i]? := by
  rw [avBack]; cases h : ρ[i]? with
  | none => rfl
  | some s => cases s <;> rfl
def kLo (ρ : Rho) (i : Nat) (r : List AV) : Option Slot → Option Rho
  | some (.ow _) => avLost (ρ.set i .no) r | _ => none
@[simp] theorem kLo_1 (ρ : Rho) (i : Nat) (r : List AV) (d : D) : kLo ρ i r (some (.ow d)) = avLost (ρ.set i .no) r := rfl
@[simp] theorem avL_1 (ρ : Rho) : avLost ρ [] = some ρ := rfl
@[simp] theorem avL_2 (ρ : Rho) (r : Res) (l : List AV) : avLost ρ (.sh r :: l) = avLost ρ l := rfl
@[simp] theorem avL_3 (ρ : Rho) (i : Nat) (l : List AV) : avLost ρ (.io i :: l) = kLo ρ i l ρ[i]? := by
  rw [avLost]; cases h : ρ[i]? with
  | none => rfl
  | some s => cases s <;> rfl
def kCall (W : Wd) (f : Nat) : R (List AV × Rho) → R (Res × Rho)
  | .ok (vs, ρ) => Dp.callWith W.cf f vs ρ | .exc c d ρ => .exc c d ρ | .bad => .bad
@[simp] theorem kCall_1 (W : Wd) (f : Nat) (vs : List AV) (ρ : Rho) : kCall W f (.ok (vs, ρ)) = Dp.callWith W.cf f vs ρ := rfl
@[simp] theorem kCall_2 (W : Wd) (f : Nat) (c : Nat) (d : D) (ρ : Rho) : kCall W f (.exc c d ρ) = .exc c d ρ := rfl
def kK3 (W : Wd) (f : Nat) (ρ : Rho) : Option (List AV) → R (Res × Rho)
  | some ws => Dp.callWith W.cf f ws ρ | none => .bad
@[simp] theorem kK3_1 (W : Wd) (f : Nat) (ρ : Rho) (ws : List AV) : kK3 W f ρ (some ws) = Dp.callWith W.cf f ws ρ := rfl
def kK2 (W : Wd) (f : Nat) (pm : List Nat) (vs : List AV) : R (List AV × Rho) → R (Res × Rho)
  | .ok (zs, ρ) => kK3 W f ρ (permX (vs ++ zs) pm) | .exc c d ρ => .exc c d ρ | .bad => .bad
@[simp] theorem kK2_1 (W : Wd) (f : Nat) (pm : List Nat) (vs zs : List AV) (ρ : Rho) : kK2 W f pm vs (.ok (zs, ρ)) = kK3 W f ρ (permX (vs ++ zs) pm) := rfl
def kK1 (W : Wd) (f : Nat) (pm : List Nat) (ks : List Ar) : R (List AV × Rho) → R (Res × Rho)
  | .ok (vs, ρ) => kK2 W f pm vs (evA W ks ρ) | .exc c d ρ => .exc c d ρ | .bad => .bad
@[simp] theorem kK1_1 (W : Wd) (f : Nat) (pm : List Nat) (ks : List Ar) (vs : List AV) (ρ : Rho) : kK1 W f pm ks (.ok (vs, ρ)) = kK2 W f pm vs (evA W ks ρ) := rfl
def kCs {α : Type} : Option α → Option (List α) → Option (List α)
  | some a, some r => some (a :: r) | _, _ => none
@[simp] theorem kCs_1 {α : Type} (a : α) (r : List α) : kCs (some a) (some r) = some (a :: r) := rfl
@[simp] theorem permX_1 {α : Type} (as : List α) : permX as [] = some [] := rfl
@[simp] theorem permX_2 {α : Type} (as : List α) (k : Nat) (ks : List Nat) : permX as (k :: ks) = kCs as[k]? (permX as ks) := by
  rw [permX]; cases as[k]? <;> cases permX as ks <;> rfl
def kM4 (W : Wd) (f : Nat) (v : AV) : R (List AV × Rho) → R (Res × Rho)
  | .ok (vs, ρ) => Dp.callWith W.cf f (v :: vs) ρ | .exc c d ρ => .exc c d ρ | .bad => .bad
@[simp] theorem kM4_1 (W : Wd) (f : Nat) (v : AV) (vs : List AV) (ρ : Rho) : kM4 W f v (.ok (vs, ρ)) = Dp.callWith W.cf f (v :: vs) ρ := rfl
@[simp] theorem kM4_2 (W : Wd) (f : Nat) (v : AV) (c : Nat) (d : D) (ρ : Rho) : kM4 W f v (.exc c d ρ) = .exc c d ρ := rfl
def kM3 (W : Wd) (as : List Ar) (v : AV) (ρ : Rho) : Option Nat → R (Res × Rho)
  | some f => kM4 W f v (evA W as ρ) | none => .bad
@[simp] theorem kM3_1 (W : Wd) (as : List Ar) (v : AV) (ρ : Rho) (f : Nat) : kM3 W as v ρ (some f) = kM4 W f v (evA W as ρ) := rfl
def kM2 (W : Wd) (m : Nat) (as : List Ar) (v : AV) (ρ : Rho) : Option D → R (Res × Rho)
  | some (.ins c _) => kM3 W as v ρ (W.meth c m) | _ => .bad
@[simp] theorem kM2_1 (W : Wd) (m : Nat) (as : List Ar) (v : AV) (ρ : Rho) (c : Nat) (fs : List (Nat × D)) : kM2 W m as v ρ (some (.ins c fs)) = kM3 W as v ρ (W.meth c m) := rfl
def kM1 (W : Wd) (m : Nat) (as : List Ar) : R (AV × Rho) → R (Res × Rho)
  | .ok (v, ρ) => kM2 W m as v ρ (v.get ρ) | .exc c d ρ => .exc c d ρ | .bad => .bad
@[simp] theorem kM1_1 (W : Wd) (m : Nat) (as : List Ar) (v : AV) (ρ : Rho) : kM1 W m as (.ok (v, ρ)) = kM2 W m as v ρ (v.get ρ) := rfl
@[simp] theorem kM1_2 (W : Wd) (m : Nat) (as : List Ar) (c : Nat) (d : D) (ρ : Rho) : kM1 W m as (.exc c d ρ) = .exc c d ρ := rfl
def kN4 (ρ : Rho) : Option Slot → R (Res × Rho)
  | some (.ow o) => .ok (.fr o, ρ) | _ => .bad
@[simp] theorem kN4_1 (ρ : Rho) (o : D) : kN4 ρ (some (.ow o)) = .ok (.fr o, ρ) := rfl
def kN3 : R (Res × Rho) → R (Res × Rho)
  | .ok (.sh .non, ρ) => kN4 ρ.dropLast ρ.getLast? | _ => .bad
@[simp] theorem kN3_1 (ρ : Rho) : kN3 (.ok (.sh .non, ρ)) = kN4 ρ.dropLast ρ.getLast? := rfl
def kN2 (W : Wd) (c : Nat) (vs : List AV) (ρ : Rho) : Option Nat → R (Res × Rho)
  | some f => kN3 (Dp.callWith W.cf f (.io ρ.length :: vs) (ρ ++ [.ow (.ins c [])])) | none => .bad
@[simp] theorem kN2_1 (W : Wd) (c : Nat) (vs : List AV) (ρ : Rho) (f : Nat) : kN2 W c vs ρ (some f) = kN3 (Dp.callWith W.cf f (.io ρ.length :: vs) (ρ ++ [.ow (.ins c [])])) := rfl
def kN1 (W : Wd) (c : Nat) : R (List AV × Rho) → R (Res × Rho)
  | .ok (vs, ρ) => kN2 W c vs ρ (W.init c) | .exc c d ρ => .exc c d ρ | .bad => .bad
@[simp] theorem kN1_1 (W : Wd) (c : Nat) (vs : List AV) (ρ : Rho) : kN1 W c (.ok (vs, ρ)) = kN2 W c vs ρ (W.init c) := rfl
@[simp] theorem kN1_2 (W : Wd) (k : Nat) (c : Nat) (d : D) (ρ : Rho) : kN1 W k (.exc c d ρ) = .exc c d ρ := rfl
def kBi2 (b : Bi) (ρ : Rho) : Option (List D) → R (Res × Rho)
  | some ds => kRes ρ (bi b ds) | none => .bad
@[simp] theorem kBi2_1 (b : Bi) (ρ : Rho) (ds : List D) : kBi2 b ρ (some ds) = kRes ρ (bi b ds) := rfl
def kBi (b : Bi) : R (List Opd × Rho) → R (Res × Rho)
  | .ok (os, ρ) => kBi2 b ρ (getAll ρ os) | .exc c d ρ => .exc c d ρ | .bad => .bad
@[simp] theorem kBi_1 (b : Bi) (os : List Opd) (ρ : Rho) : kBi b (.ok (os, ρ)) = kBi2 b ρ (getAll ρ os) := rfl
@[simp] theorem kBi_2 (b : Bi) (c : Nat) (d : D) (ρ : Rho) : kBi b (.exc c d ρ) = .exc c d ρ := rfl
@[simp] theorem getAll_1 (ρ : Rho) : getAll ρ [] = some [] := rfl
@[simp] theorem getAll_2 (ρ : Rho) (o : Opd) (os : List Opd) : getAll ρ (o :: os) = kCs (o.get ρ) (getAll ρ os) := by
  rw [getAll]; cases o.get ρ <;> cases getAll ρ os <;> rfl
/-! ### displays and loops, kept whole -/
section
variable (W : Wd)
def cmpQ (w : List Nat) (t : T) (cs : List E) (e : E) (xs : List D) (ρ : Rho) : R (Res × Rho) :=
  if wOk ρ w then (R.opt (compGo w t (evT W cs) (ev W e) xs [] (wipeR ρ w))).bind fun (acc, ρ') => .ok (.fr (.lst acc), unwipe ρ ρ' w) else .bad
def kComp (w : List Nat) (t : T) (cs : List E) (e : E) : R (List D × Rho) → R (Res × Rho)
  | .ok (xs, ρ) => cmpQ W w t cs e xs ρ | .exc c d ρ => .exc c d ρ | .bad => .bad
@[simp] theorem kComp_1 (w : List Nat) (t : T) (cs : List E) (e : E) (xs : List D) (ρ : Rho) : kComp W w t cs e (.ok (xs, ρ)) = cmpQ W w t cs e xs ρ := rfl
noncomputable def whlQ (c : E) (b : List S) (ρ : Rho) : XR := loopW (tst W c) (exs W b) ρ
noncomputable def forQ (t : T) (b : List S) (xs : List D) (ρ : Rho) : XR := forGo t (exs W b) xs ρ
noncomputable def kFor (t : T) (b : List S) : R (List D × Rho) → XR
  | .ok (xs, ρ) => forQ W t b xs ρ | .exc c d ρ => .exc c d ρ | .bad => .bad
@[simp] theorem kFor_1 (t : T) (b : List S) (xs : List D) (ρ : Rho) : kFor W t b (.ok (xs, ρ)) = forQ W t b xs ρ := rfl
def kSeq (ρ : Rho) : Option (List D) → R (List D × Rho)
  | some xs => .ok (xs, ρ) | none => .bad
@[simp] theorem kSeq_1 (ρ : Rho) (xs : List D) : kSeq ρ (some xs) = .ok (xs, ρ) := rfl
def kIt : R (Res × Rho) → R (List D × Rho)
  | .ok (r, ρ) => kSeq ρ (seqOf r.d) | .exc c d ρ => .exc c d ρ | .bad => .bad
@[simp] theorem kIt_1 (r : Res) (ρ : Rho) : kIt (.ok (r, ρ)) = kSeq ρ (seqOf r.d) := rfl
@[simp] theorem kIt_2 (c : Nat) (d : D) (ρ : Rho) : kIt (.exc c d ρ) = .exc c d ρ := rfl
def kItB (b : IB) : R (List D × Rho) → R (List D × Rho)
  | .ok (ds, ρ) => kSeq ρ (itB b ds) | .exc c d ρ => .exc c d ρ | .bad => .bad
@[simp] theorem kItB_1 (b : IB) (ds : List D) (ρ : Rho) : kItB b (.ok (ds, ρ)) = kSeq ρ (itB b ds) := rfl
def tsK (es : List E) (ρ : Rho) : Option D → R (Bool × Rho)
  | some (.bl true) => evT W es ρ | some (.bl false) => .ok (false, ρ) | _ => .bad
@[simp] theorem tsK_1 (es : List E) (ρ : Rho) : tsK W es ρ (some (.bl true)) = evT W es ρ := rfl
@[simp] theorem tsK_2 (es : List E) (ρ : Rho) : tsK W es ρ (some (.bl false)) = .ok (false, ρ) := rfl
def tsO (es : List E) : R (Opd × Rho) → R (Bool × Rho)
  | .ok (x, ρ) => tsK W es ρ (x.get ρ) | .exc c d ρ => .exc c d ρ | .bad => .bad
@[simp] theorem tsO_1 (es : List E) (x : Opd) (ρ : Rho) : tsO W es (.ok (x, ρ)) = tsK W es ρ (x.get ρ) := rfl
/-! ### the forms -/
variable (ρ : Rho)
@[simp] theorem v_slot (i : Nat) : ev W (.slot i) ρ = kRead ρ i ρ[i]? := by
  rw [ev, readR]; cases h : ρ[i]? with
  | none => rfl
  | some s => cases s <;> rfl
@[simp] theorem v_mv (i : Nat) : ev W (.mv i) ρ = kMove ρ i ρ[i]? := by
  rw [ev, moveR]; cases h : ρ[i]? with
  | none => rfl
  | some s => cases s <;> rfl
@[simp] theorem v_cst (d : D) : ev W (.cst d) ρ = .ok (.sh d, ρ) := by rw [ev]
@[simp] theorem v_tup (es : List E) : ev W (.tup es) ρ = kTup (evL W es ρ) := by
  rw [ev]; cases h : evL W es ρ with
  | ok p => obtain ⟨a, b⟩ := p; rfl
  | exc c d r => rfl
  | bad => rfl
@[simp] theorem v_lst (es : List E) : ev W (.lst es) ρ = kLst (evL W es ρ) := by
  rw [ev]; cases h : evL W es ρ with
  | ok p => obtain ⟨a, b⟩ := p; rfl
  | exc c d r => rfl
  | bad => rfl
theorem k2_of (F : D → D → Option Res) (x y : Option D) : (match x, y with
      | some d, some e => (R.opt (F d e)).bind fun r => .ok (r, ρ)
      | _, _ => .bad) = k2 F ρ x y := by
  cases x with
  | none => rfl
  | some d => cases y with
    | none => rfl
    | some e => simp only [k2]; cases F d e <;> rfl
theorem kOpd {α : Type} (x : R (Opd × Rho)) (f g : Opd × Rho → R α) (h : ∀ a, f a = g a) : x.bind f = x.bind g := by
  cases x with
  | ok p => exact h p
  | exc c d r => rfl
  | bad => rfl
theorem o1_of (F : D → Option Res) (x : R (Opd × Rho)) : o1 F x = x.bind fun p => k1 F p.2 (p.1.get p.2) := by
  cases x with
  | ok p => obtain ⟨a, b⟩ := p; rfl
  | exc c d r => rfl
  | bad => rfl
theorem o2_of (F : D → D → Option Res) (b : E) (x : R (Opd × Rho)) : o2 W F b x = x.bind fun p => (pk b (ev W b) p.2).bind fun q => k2 F q.2 (p.1.get q.2) (q.1.get q.2) := by
  cases x with
  | ok p =>
    obtain ⟨a, r⟩ := p
    simp only [o2, R.bind]
    cases pk b (ev W b) r with
    | ok q => obtain ⟨y, r2⟩ := q; rfl
    | exc c d r => rfl
    | bad => rfl
  | exc c d r => rfl
  | bad => rfl
@[simp] theorem v_bin (op : BOp) (a b : E) : ev W (.bin op a b) ρ = o2 W (bop op) b (pk a (ev W a) ρ) := by
  rw [ev, o2_of]
  refine kOpd _ _ _ fun p => kOpd _ _ _ fun q => ?_
  exact k2_of q.2 (bop op) _ _
@[simp] theorem v_cmp (op : COp) (a b : E) : ev W (.cmp op a b) ρ = o2 W (cmpF op) b (pk a (ev W a) ρ) := by
  rw [ev, o2_of]
  refine kOpd _ _ _ fun p => kOpd _ _ _ fun q => ?_
  rw [← k2_of]
  obtain ⟨q1, q2⟩ := q
  simp only
  cases p.1.get q2 with
  | none => rfl
  | some d => cases q1.get q2 with
    | none => rfl
    | some e => simp only [cmpF]; cases cop op d e <;> rfl
@[simp] theorem v_idx (a b : E) : ev W (.idx a b) ρ = o2 W idxF b (pk a (ev W a) ρ) := by
  rw [ev, o2_of]
  refine kOpd _ _ _ fun p => kOpd _ _ _ fun q => ?_
  rw [← k2_of]
  obtain ⟨q1, q2⟩ := q
  simp only
  cases p.1.get q2 with
  | none => rfl
  | some d => cases q1.get q2 with
    | none => rfl
    | some e => simp only [idxF]; cases ixD d e <;> rfl
@[simp] theorem v_neg (a : E) : ev W (.neg a) ρ = o1 negF (pk a (ev W a) ρ) := by
  rw [ev, o1_of]
  refine kOpd _ _ _ fun p => ?_
  obtain ⟨x, r⟩ := p
  simp only
  cases x.get r with
  | none => rfl
  | some d => cases d <;> rfl
@[simp] theorem v_not (a : E) : ev W (.not a) ρ = o1 notF (pk a (ev W a) ρ) := by
  rw [ev, o1_of]
  refine kOpd _ _ _ fun p => ?_
  obtain ⟨x, r⟩ := p
  simp only
  cases x.get r with
  | none => rfl
  | some d => cases d <;> rfl
@[simp] theorem v_rev (a : E) : ev W (.rev a) ρ = o1 revF (pk a (ev W a) ρ) := by
  rw [ev, o1_of]
  refine kOpd _ _ _ fun p => ?_
  obtain ⟨x, r⟩ := p
  simp only
  cases x.get r with
  | none => rfl
  | some d => cases d <;> rfl
@[simp] theorem v_fld (a : E) (f : Nat) : ev W (.fld a f) ρ = o1 (fldF W f) (pk a (ev W a) ρ) := by
  rw [ev, o1_of]
  refine kOpd _ _ _ fun p => ?_
  obtain ⟨x, r⟩ := p
  simp only
  cases x.get r with
  | none => rfl
  | some d => simp only [k1, fldF]; cases fldD W.fok W.eok f d <;> rfl
@[simp] theorem v_isi (a : E) (t : Ty) : ev W (.isi a t) ρ = o1 (isiF W t) (pk a (ev W a) ρ) := by
  rw [ev, o1_of]
  refine kOpd _ _ _ fun p => ?_
  obtain ⟨x, r⟩ := p
  simp only
  cases x.get r with
  | none => rfl
  | some d => simp only [k1, isiF]; cases tyIs W.sub d t <;> rfl
@[simp] theorem v_and (a b : E) : ev W (.and a b) ρ = andO W b (pk a (ev W a) ρ) := by
  rw [ev]
  cases pk a (ev W a) ρ with
  | exc c d r => rfl
  | bad => rfl
  | ok p =>
    obtain ⟨x, r⟩ := p
    simp only [R.bind, andO]
    cases x.get r with
    | none => rfl
    | some d =>
      cases d with
      | bl b => cases b <;> rfl
      | _ => rfl
@[simp] theorem v_or (a b : E) : ev W (.or a b) ρ = orO W b (pk a (ev W a) ρ) := by
  rw [ev]
  cases pk a (ev W a) ρ with
  | exc c d r => rfl
  | bad => rfl
  | ok p =>
    obtain ⟨x, r⟩ := p
    simp only [R.bind, orO]
    cases x.get r with
    | none => rfl
    | some d =>
      cases d with
      | bl b => cases b <;> rfl
      | _ => rfl
@[simp] theorem v_ite (c a b : E) : ev W (.ite c a b) ρ = iteO W a b (pk c (ev W c) ρ) := by
  rw [ev]
  cases pk c (ev W c) ρ with
  | exc c d r => rfl
  | bad => rfl
  | ok p =>
    obtain ⟨x, r⟩ := p
    simp only [R.bind, iteO]
    cases x.get r with
    | none => rfl
    | some d =>
      cases d with
      | bl b => cases b <;> rfl
      | _ => rfl
@[simp] theorem v_chain (op op' : COp) (a b c : E) : ev W (.chain op op' a b c) ρ = chO W op op' b c (pk a (ev W a) ρ) := by
  rw [ev]
  cases pk a (ev W a) ρ with
  | exc c d r => rfl
  | bad => rfl
  | ok p =>
    obtain ⟨x, r⟩ := p
    simp only [R.bind, chO]
    cases pk b (ev W b) r with
    | exc c d r => rfl
    | bad => rfl
    | ok q =>
      obtain ⟨y, r2⟩ := q
      simp only [chO2]
      cases x.get r2 with
      | none => rfl
      | some d =>
        cases hy : y.get r2 with
        | none => rfl
        | some e =>
          simp only [chG]
          cases cop op d e with
          | none => rfl
          | some v =>
            cases v with
            | false => rfl
            | true =>
              simp only [R.opt, chK]
              cases pk c (ev W c) r2 with
              | exc c d r => rfl
              | bad => rfl
              | ok p3 =>
                obtain ⟨z, r3⟩ := p3
                simp only [o2b]
                cases y.get r3 with
                | none => rfl
                | some e' => cases z.get r3 with
                  | none => rfl
                  | some g => simp only [k2, cmpF]; cases cop op' e' g <;> rfl
@[simp] theorem v_slc (a : E) (lo hi : Option E) : ev W (.slc a lo hi) ρ = slO W lo hi (pk a (ev W a) ρ) := by
  rw [ev]
  cases pk a (ev W a) ρ with
  | exc c d r => rfl
  | bad => rfl
  | ok p =>
    obtain ⟨x, r⟩ := p
    simp only [R.bind, slO]
    cases evO W lo r with
    | exc c d r => rfl
    | bad => rfl
    | ok q =>
      obtain ⟨l, r2⟩ := q
      simp only [slO2]
      cases evO W hi r2 with
      | exc c d r => rfl
      | bad => rfl
      | ok q3 =>
        obtain ⟨h, r3⟩ := q3
        simp only [slO3]
        cases x.get r3 with
        | none => rfl
        | some d => simp only [slK]; cases cutD d l h <;> rfl
@[simp] theorem v_call (f : Nat) (as : List Ar) : ev W (.call f as) ρ = kCall W f (evA W as ρ) := by
  rw [ev]; cases evA W as ρ with
  | ok p => obtain ⟨a, b⟩ := p; rfl
  | exc c d r => rfl
  | bad => rfl
@[simp] theorem v_callK (f : Nat) (pm : List Nat) (as ks : List Ar) : ev W (.callK f pm as ks) ρ = kK1 W f pm ks (evA W as ρ) := by
  rw [ev]; cases evA W as ρ with
  | ok p =>
    obtain ⟨a, r⟩ := p
    simp only [R.bind, kK1]
    cases evA W ks r with
    | ok q => obtain ⟨b, r2⟩ := q; simp only [kK2]; cases permX (a ++ b) pm <;> rfl
    | exc c d r => rfl
    | bad => rfl
  | exc c d r => rfl
  | bad => rfl
@[simp] theorem v_meth (m : Nat) (a : Ar) (as : List Ar) : ev W (.meth m a as) ρ = kM1 W m as (evA1 W a ρ) := by
  rw [ev]; cases evA1 W a ρ with
  | ok p =>
    obtain ⟨v, r⟩ := p
    simp only [R.bind, kM1]
    cases v.get r with
    | none => rfl
    | some d =>
      cases d with
      | ins c fs =>
        simp only [kM2]
        cases W.meth c m with
        | none => rfl
        | some f =>
          simp only [R.opt, kM3]
          cases evA W as r with
          | ok q => obtain ⟨b, r2⟩ := q; rfl
          | exc c d r => rfl
          | bad => rfl
      | _ => rfl
  | exc c d r => rfl
  | bad => rfl
@[simp] theorem v_new (c : Nat) (as : List Ar) : ev W (.new c as) ρ = kN1 W c (evA W as ρ) := by
  rw [ev]; cases evA W as ρ with
  | ok p =>
    obtain ⟨vs, r⟩ := p
    simp only [R.bind, kN1]
    cases W.init c with
    | none => rfl
    | some f =>
      simp only [R.opt, kN2]
      cases Dp.callWith W.cf f (.io r.length :: vs) (r ++ [.ow (.ins c [])]) with
      | exc c d r => rfl
      | bad => rfl
      | ok q =>
        obtain ⟨x, r2⟩ := q
        cases x with
        | fr d => rfl
        | sh d =>
          cases d with
          | non =>
            simp only [kN3]
            cases r2.getLast? with
            | none => rfl
            | some s => cases s <;> rfl
          | _ => rfl
  | exc c d r => rfl
  | bad => rfl
@[simp] theorem v_bi (b : Bi) (es : List E) : ev W (.bi b es) ρ = kBi b (evPs W es ρ) := by
  rw [ev]; cases evPs W es ρ with
  | ok p =>
    obtain ⟨os, r⟩ := p
    simp only [R.bind, kBi]
    cases getAll r os with
    | none => rfl
    | some ds => simp only [kBi2]; cases bi b ds <;> rfl
  | exc c d r => rfl
  | bad => rfl
@[simp] theorem v_comp (w : List Nat) (t : T) (it : It) (cs : List E) (e : E) : ev W (.comp w t it cs e) ρ = kComp W w t cs e (evI W it ρ) := by
  rw [ev]; cases evI W it ρ with
  | ok p => obtain ⟨a, b⟩ := p; rfl
  | exc c d r => rfl
  | bad => rfl
@[simp] theorem a1_sh (e : E) : evA1 W (.sh e) ρ = kSh (ev W e ρ) := by
  rw [evA1]; cases ev W e ρ with
  | ok p => obtain ⟨a, b⟩ := p; rfl
  | exc c d r => rfl
  | bad => rfl
@[simp] theorem a1_io (i : Nat) : evA1 W (.io i) ρ = kIo ρ i ρ[i]? := by
  rw [evA1, get_1]; cases h : ρ[i]? with
  | none => rfl
  | some s => cases s <;> rfl
@[simp] theorem eo_none : evO W none ρ = .ok (none, ρ) := by rw [evO]
@[simp] theorem eo_some (e : E) : evO W (some e) ρ = kInt (ev W e ρ) := by
  rw [evO]; cases ev W e ρ with
  | ok p =>
    obtain ⟨a, b⟩ := p
    cases a with
    | fr d => rfl
    | sh d => cases d <;> rfl
  | exc c d r => rfl
  | bad => rfl
@[simp] theorem ps_nil : evPs W [] ρ = .ok ([], ρ) := by rw [evPs]
@[simp] theorem ps_cons (e : E) (es : List E) : evPs W (e :: es) ρ = kP1 W es (pk e (ev W e) ρ) := by
  rw [evPs]; cases pk e (ev W e) ρ with
  | ok p =>
    obtain ⟨a, b⟩ := p
    simp only [R.bind, kP1]
    cases evPs W es b with
    | ok q => obtain ⟨x, y⟩ := q; rfl
    | exc c d r => rfl
    | bad => rfl
  | exc c d r => rfl
  | bad => rfl
@[simp] theorem ls_nil : evL W [] ρ = .ok ([], ρ) := by rw [evL]
@[simp] theorem ls_cons (e : E) (es : List E) : evL W (e :: es) ρ = kL1 W es (ev W e ρ) := by
  rw [evL]; cases ev W e ρ with
  | ok p =>
    obtain ⟨a, b⟩ := p
    simp only [R.bind, kL1]
    cases evL W es b with
    | ok q => obtain ⟨x, y⟩ := q; rfl
    | exc c d r => rfl
    | bad => rfl
  | exc c d r => rfl
  | bad => rfl
@[simp] theorem as_nil : evA W [] ρ = .ok ([], ρ) := by rw [evA]
@[simp] theorem as_cons (a : Ar) (as : List Ar) : evA W (a :: as) ρ = kA1 W as (evA1 W a ρ) := by
  rw [evA]; cases evA1 W a ρ with
  | ok p =>
    obtain ⟨a, b⟩ := p
    simp only [R.bind, kA1]
    cases evA W as b with
    | ok q => obtain ⟨x, y⟩ := q; rfl
    | exc c d r => rfl
    | bad => rfl
  | exc c d r => rfl
  | bad => rfl
@[simp] theorem t_nil : evT W [] ρ = .ok (true, ρ) := by rw [evT]
@[simp] theorem t_cons (e : E) (es : List E) : evT W (e :: es) ρ = tsO W es (pk e (ev W e) ρ) := by
  rw [evT]; cases pk e (ev W e) ρ with
  | ok p =>
    obtain ⟨x, r⟩ := p
    simp only [R.bind, tsO]
    cases x.get r with
    | none => rfl
    | some d =>
      cases d with
      | bl b => cases b <;> rfl
      | _ => rfl
  | exc c d r => rfl
  | bad => rfl
@[simp] theorem i_seq (e : E) : evI W (.seq e) ρ = kIt (ev W e ρ) := by
  rw [evI]; cases ev W e ρ with
  | ok p => obtain ⟨x, r⟩ := p; simp only [R.bind, kIt]; cases seqOf x.d <;> rfl
  | exc c d r => rfl
  | bad => rfl
@[simp] theorem i_bi (b : IB) (es : List E) : evI W (.bi b es) ρ = kItB b (evL W es ρ) := by
  rw [evI]; cases evL W es ρ with
  | ok p => obtain ⟨x, r⟩ := p; simp only [R.bind, kItB]; cases itB b x <;> rfl
  | exc c d r => rfl
  | bad => rfl
end
/-! ### operands -/
section
variable (f : Rho → R (Res × Rho)) (ρ : Rho)
@[simp] theorem p_slot (i : Nat) : pk (.slot i) f ρ = kOp ρ i ρ[i]? := by
  simp only [pk, get_1]; cases h : ρ[i]? with
  | none => rfl
  | some s => cases s <;> rfl
@[simp] theorem p_cst (d : D) : pk (.cst d) f ρ = .ok (.val d, ρ) := rfl
theorem kVal_of (x : R (Res × Rho)) : (x.bind fun (r, ρ') => .ok (.val r.d, ρ')) = kVal x := by
  cases x with
  | ok p => obtain ⟨a, b⟩ := p; rfl
  | exc c d r => rfl
  | bad => rfl
@[simp] theorem p_mv (i : Nat) : pk (.mv i) f ρ = kVal (f ρ) := kVal_of _
@[simp] theorem p_tup (es : List E) : pk (.tup es) f ρ = kVal (f ρ) := kVal_of _
@[simp] theorem p_lst (es : List E) : pk (.lst es) f ρ = kVal (f ρ) := kVal_of _
@[simp] theorem p_bin (op : BOp) (a b : E) : pk (.bin op a b) f ρ = kVal (f ρ) := kVal_of _
@[simp] theorem p_neg (a : E) : pk (.neg a) f ρ = kVal (f ρ) := kVal_of _
@[simp] theorem p_not (a : E) : pk (.not a) f ρ = kVal (f ρ) := kVal_of _
@[simp] theorem p_and (a b : E) : pk (.and a b) f ρ = kVal (f ρ) := kVal_of _
@[simp] theorem p_or (a b : E) : pk (.or a b) f ρ = kVal (f ρ) := kVal_of _
@[simp] theorem p_ite (c a b : E) : pk (.ite c a b) f ρ = kVal (f ρ) := kVal_of _
@[simp] theorem p_cmp (op : COp) (a b : E) : pk (.cmp op a b) f ρ = kVal (f ρ) := kVal_of _
@[simp] theorem p_chain (op op' : COp) (a b c : E) : pk (.chain op op' a b c) f ρ = kVal (f ρ) := kVal_of _
@[simp] theorem p_idx (a b : E) : pk (.idx a b) f ρ = kVal (f ρ) := kVal_of _
@[simp] theorem p_slc (a : E) (lo hi : Option E) : pk (.slc a lo hi) f ρ = kVal (f ρ) := kVal_of _
@[simp] theorem p_fld (a : E) (i : Nat) : pk (.fld a i) f ρ = kVal (f ρ) := kVal_of _
@[simp] theorem p_call (j : Nat) (as : List Ar) : pk (.call j as) f ρ = kVal (f ρ) := kVal_of _
@[simp] theorem p_callK (j : Nat) (pm : List Nat) (as ks : List Ar) : pk (.callK j pm as ks) f ρ = kVal (f ρ) := kVal_of _
@[simp] theorem p_meth (m : Nat) (a : Ar) (as : List Ar) : pk (.meth m a as) f ρ = kVal (f ρ) := kVal_of _
@[simp] theorem p_new (c : Nat) (as : List Ar) : pk (.new c as) f ρ = kVal (f ρ) := kVal_of _
@[simp] theorem p_bi (b : Bi) (es : List E) : pk (.bi b es) f ρ = kVal (f ρ) := kVal_of _
@[simp] theorem p_isi (a : E) (t : Ty) : pk (.isi a t) f ρ = kVal (f ρ) := kVal_of _
@[simp] theorem p_comp (w : List Nat) (t : T) (it : It) (cs : List E) (e : E) : pk (.comp w t it cs e) f ρ = kVal (f ρ) := kVal_of _
@[simp] theorem p_rev (a : E) : pk (.rev a) f ρ = kVal (f ρ) := kVal_of _
end
/-! ### statements -/
def seqX (x : XR) (f : Rho → XR) : XR :=
  match x with
  | .nx ρ1 => f ρ1 | o => o
@[simp] theorem seqX_1 (ρ : Rho) (h : Rho → XR) : seqX (.nx ρ) h = h ρ := rfl
@[simp] theorem seqX_2 (r : Res) (ρ : Rho) (h : Rho → XR) : seqX (.rt r ρ) h = .rt r ρ := rfl
@[simp] theorem seqX_3 (ρ : Rho) (h : Rho → XR) : seqX (.bk ρ) h = .bk ρ := rfl
@[simp] theorem seqX_4 (ρ : Rho) (h : Rho → XR) : seqX (.ct ρ) h = .ct ρ := rfl
@[simp] theorem seqX_5 (c : Nat) (d : D) (ρ : Rho) (h : Rho → XR) : seqX (.exc c d ρ) h = .exc c d ρ := rfl
@[simp] theorem seqX_6 (h : Rho → XR) : seqX .bad h = .bad := rfl
@[simp] theorem exs_1 (W : Wd) (ρ : Rho) : exs W [] ρ = .nx ρ := by rw [exs]
@[simp] theorem exs_2 (W : Wd) (ρ : Rho) (s : S) (r : List S) : exs W (s :: r) ρ = seqX (ex W s ρ) (exs W r) := by
  simp only [exs]; cases ex W s ρ <;> rfl
def kX : Option Rho → XR
  | some ρ => .nx ρ | none => .bad
@[simp] theorem kX_1 (ρ : Rho) : kX (some ρ) = .nx ρ := rfl
def kSetR (ρ : Rho) (i : Nat) (s : Slot) : Option Slot → Option Rho
  | some (.io _) => none | some _ => some (ρ.set i s) | none => none
@[simp] theorem kSetR_1 (ρ : Rho) (i : Nat) (s : Slot) : kSetR ρ i s (some .no) = some (ρ.set i s) := rfl
@[simp] theorem kSetR_2 (ρ : Rho) (i : Nat) (s : Slot) (d : D) : kSetR ρ i s (some (.sh d)) = some (ρ.set i s) := rfl
@[simp] theorem kSetR_3 (ρ : Rho) (i : Nat) (s : Slot) (d : D) : kSetR ρ i s (some (.ow d)) = some (ρ.set i s) := rfl
@[simp] theorem kSetR_4 (ρ : Rho) (i : Nat) (s : Slot) (q : J) : kSetR ρ i s (some (jS q)) = some (ρ.set i s) := by
  cases q with
  | none => rfl
  | some r => cases r <;> rfl
@[simp] theorem setR_1 (ρ : Rho) (i : Nat) (s : Slot) : setR ρ i s = kSetR ρ i s ρ[i]? := by
  rw [setR]; cases h : ρ[i]? with
  | none => rfl
  | some s => cases s <;> rfl
@[simp] theorem bindT_1 (i : Nat) (d : D) (ρ : Rho) : bindT (.nm i) d ρ = kSetR ρ i (.sh d) ρ[i]? := by
  rw [bindT]; cases h : ρ[i]? with
  | none => rfl
  | some s => cases s <;> rfl
@[simp] theorem bindT_2 (ts : List T) (xs : List D) (ρ : Rho) : bindT (.tp ts) (.tup xs) ρ = bindTs ts xs ρ := by rw [bindT]
def kBs (ts : List T) (xs : List D) : Option Rho → Option Rho
  | some ρ => bindTs ts xs ρ | none => none
@[simp] theorem kBs_1 (ts : List T) (xs : List D) (ρ : Rho) : kBs ts xs (some ρ) = bindTs ts xs ρ := rfl
@[simp] theorem bindTs_1 (ρ : Rho) : bindTs [] [] ρ = some ρ := by rw [bindTs]
@[simp] theorem bindTs_2 (t : T) (ts : List T) (x : D) (xs : List D) (ρ : Rho) : bindTs (t :: ts) (x :: xs) ρ = kBs ts xs (bindT t x ρ) := by
  rw [bindTs]; cases bindT t x ρ <;> rfl
def kSet (i : Nat) : R (Res × Rho) → XR
  | .ok (r, ρ) => kX (setR ρ i r.slot) | .exc c d ρ => .exc c d ρ | .bad => .bad
@[simp] theorem kSet_1 (i : Nat) (r : Res) (ρ : Rho) : kSet i (.ok (r, ρ)) = kX (setR ρ i r.slot) := rfl
@[simp] theorem kSet_2 (i : Nat) (c : Nat) (d : D) (ρ : Rho) : kSet i (.exc c d ρ) = .exc c d ρ := rfl
def kPar3 (j : Nat) (d : D) : Option Rho → XR
  | some ρ => kX (setR ρ j (.sh d)) | none => .bad
@[simp] theorem kPar3_1 (j : Nat) (d : D) (ρ : Rho) : kPar3 j d (some ρ) = kX (setR ρ j (.sh d)) := rfl
def kPar2 (i j : Nat) (r : Res) : R (Res × Rho) → XR
  | .ok (r', ρ) => kPar3 j r'.d (setR ρ i (.sh r.d)) | .exc c d ρ => .exc c d ρ | .bad => .bad
@[simp] theorem kPar2_1 (i j : Nat) (r r' : Res) (ρ : Rho) : kPar2 i j r (.ok (r', ρ)) = kPar3 j r'.d (setR ρ i (.sh r.d)) := rfl
def kPar (W : Wd) (i j : Nat) (b : E) : R (Res × Rho) → XR
  | .ok (r, ρ) => kPar2 i j r (ev W b ρ) | .exc c d ρ => .exc c d ρ | .bad => .bad
@[simp] theorem kPar_1 (W : Wd) (i j : Nat) (b : E) (r : Res) (ρ : Rho) : kPar W i j b (.ok (r, ρ)) = kPar2 i j r (ev W b ρ) := rfl
def kUnp (t : T) : R (Res × Rho) → XR
  | .ok (r, ρ) => kX (bindT t r.d ρ) | .exc c d ρ => .exc c d ρ | .bad => .bad
@[simp] theorem kUnp_1 (t : T) (r : Res) (ρ : Rho) : kUnp t (.ok (r, ρ)) = kX (bindT t r.d ρ) := rfl
def kModR (ρ : Rho) (a : Nat) (f : D → Option D) : Option Slot → Option Rho
  | some (.ow d) => (f d).map fun d' => ρ.set a (.ow d')
  | some (.io d) => (f d).map fun d' => ρ.set a (.io d')
  | _ => none
def kMo (ρ : Rho) (a : Nat) : Option D → Option Rho
  | some d => some (ρ.set a (.ow d)) | none => none
def kMi (ρ : Rho) (a : Nat) : Option D → Option Rho
  | some d => some (ρ.set a (.io d)) | none => none
@[simp] theorem kMo_1 (ρ : Rho) (a : Nat) (d : D) : kMo ρ a (some d) = some (ρ.set a (.ow d)) := rfl
@[simp] theorem kMi_1 (ρ : Rho) (a : Nat) (d : D) : kMi ρ a (some d) = some (ρ.set a (.io d)) := rfl
@[simp] theorem kModR_1 (ρ : Rho) (a : Nat) (f : D → Option D) (d : D) : kModR ρ a f (some (.ow d)) = kMo ρ a (f d) := by
  simp only [kModR]; cases f d <;> rfl
@[simp] theorem kModR_2 (ρ : Rho) (a : Nat) (f : D → Option D) (d : D) : kModR ρ a f (some (.io d)) = kMi ρ a (f d) := by
  simp only [kModR]; cases f d <;> rfl
@[simp] theorem modR_1 (ρ : Rho) (a : Nat) (f : D → Option D) : modR ρ a f = kModR ρ a f ρ[a]? := by
  rw [modR]; cases h : ρ[a]? with
  | none => rfl
  | some s => cases s <;> rfl
def kIx3 (a : Nat) (v : D) : R (Res × Rho) → XR
  | .ok (k, ρ) => kX (modR ρ a (setAt k.d v)) | .exc c d ρ => .exc c d ρ | .bad => .bad
@[simp] theorem kIx3_1 (a : Nat) (v : D) (k : Res) (ρ : Rho) : kIx3 a v (.ok (k, ρ)) = kX (modR ρ a (setAt k.d v)) := rfl
def kGd (x : XR) : Option D → XR
  | some _ => x | none => .bad
@[simp] theorem kGd_1 (x : XR) (d : D) : kGd x (some d) = x := rfl
def kIx2 (W : Wd) (a : Nat) (i : E) (v : D) (ρ : Rho) : Option Slot → XR
  | some .no => .bad | some _ => kIx3 a v (ev W i ρ) | none => .bad
@[simp] theorem kIx2_1 (W : Wd) (a : Nat) (i : E) (v : D) (ρ : Rho) (d : D) : kIx2 W a i v ρ (some (.ow d)) = kIx3 a v (ev W i ρ) := rfl
@[simp] theorem kIx2_2 (W : Wd) (a : Nat) (i : E) (v : D) (ρ : Rho) (d : D) : kIx2 W a i v ρ (some (.io d)) = kIx3 a v (ev W i ρ) := rfl
def kIx1 (W : Wd) (a : Nat) (i : E) : R (Res × Rho) → XR
  | .ok (r, ρ) => kIx2 W a i r.d ρ ρ[a]? | .exc c d ρ => .exc c d ρ | .bad => .bad
@[simp] theorem kIx1_1 (W : Wd) (a : Nat) (i : E) (r : Res) (ρ : Rho) : kIx1 W a i (.ok (r, ρ)) = kIx2 W a i r.d ρ ρ[a]? := rfl
/-- a place of a list changed by an operator -/
def kAx5 (a : Nat) (k : D) (ρ : Rho) : Option Int → XR
  | some z => kX (modR ρ a (setAt k (.int z))) | none => .bad
@[simp] theorem kAx5_1 (a : Nat) (k : D) (ρ : Rho) (z : Int) : kAx5 a k ρ (some z) = kX (modR ρ a (setAt k (.int z))) := rfl
def kAx4 (op : BOp) (a : Nat) (k : D) (x : Int) : R (Res × Rho) → XR
  | .ok (.sh (.int y), ρ) => kAx5 a k ρ (aop op x y) | .ok (.fr (.int y), ρ) => kAx5 a k ρ (aop op x y) | .exc c d ρ => .exc c d ρ | _ => .bad
@[simp] theorem kAx4_1 (op : BOp) (a : Nat) (k : D) (x y : Int) (ρ : Rho) : kAx4 op a k x (.ok (.sh (.int y), ρ)) = kAx5 a k ρ (aop op x y) := rfl
def kAx3 (W : Wd) (op : BOp) (a : Nat) (e : E) (k : D) (ρ : Rho) : Option D → XR
  | some (.int x) => kAx4 op a k x (ev W e ρ) | _ => .bad
@[simp] theorem kAx3_1 (W : Wd) (op : BOp) (a : Nat) (e : E) (k : D) (ρ : Rho) (x : Int) : kAx3 W op a e k ρ (some (.int x)) = kAx4 op a k x (ev W e ρ) := rfl
def kAx2 (W : Wd) (op : BOp) (a : Nat) (e : E) (k : D) (ρ : Rho) : Option D → XR
  | some (.lst xs) => kAx3 W op a e k ρ (ixD (.lst xs) k) | _ => .bad
@[simp] theorem kAx2_1 (W : Wd) (op : BOp) (a : Nat) (e : E) (k : D) (ρ : Rho) (xs : List D) : kAx2 W op a e k ρ (some (.lst xs)) = kAx3 W op a e k ρ (ixD (.lst xs) k) := rfl
def kAx1 (W : Wd) (op : BOp) (a : Nat) (e : E) : R (Res × Rho) → XR
  | .ok (k, ρ) => kAx2 W op a e k.d ρ (kCont ρ[a]?) | .exc c d ρ => .exc c d ρ | .bad => .bad
@[simp] theorem kAx1_1 (W : Wd) (op : BOp) (a : Nat) (e : E) (k : Res) (ρ : Rho) : kAx1 W op a e (.ok (k, ρ)) = kAx2 W op a e k.d ρ (kCont ρ[a]?) := rfl
def kAu3 (i : Nat) (ρ : Rho) : Option Int → XR
  | some z => kX (setR ρ i (.sh (.int z))) | none => .bad
@[simp] theorem kAu3_1 (i : Nat) (ρ : Rho) (z : Int) : kAu3 i ρ (some z) = kX (setR ρ i (.sh (.int z))) := rfl
def kAu2 (op : BOp) (i : Nat) (ρ : Rho) : D → Option Slot → XR
  | .int y, some (.sh (.int x)) => kAu3 i ρ (aop op x y) | _, _ => .bad
@[simp] theorem kAu2_1 (op : BOp) (i : Nat) (ρ : Rho) (x y : Int) : kAu2 op i ρ (.int y) (some (.sh (.int x))) = kAu3 i ρ (aop op x y) := rfl
def kAu1 (op : BOp) (i : Nat) : R (Res × Rho) → XR
  | .ok (r, ρ) => kAu2 op i ρ r.d ρ[i]? | .exc c d ρ => .exc c d ρ | .bad => .bad
@[simp] theorem kAu1_1 (op : BOp) (i : Nat) (r : Res) (ρ : Rho) : kAu1 op i (.ok (r, ρ)) = kAu2 op i ρ r.d ρ[i]? := rfl
def kMd (a : Nat) (F : D → D → Option D) : R (Res × Rho) → XR
  | .ok (r, ρ) => kX (modR ρ a (F r.d)) | .exc c d ρ => .exc c d ρ | .bad => .bad
@[simp] theorem kMd_1 (a : Nat) (F : D → D → Option D) (r : Res) (ρ : Rho) : kMd a F (.ok (r, ρ)) = kX (modR ρ a (F r.d)) := rfl
def kGl (x : XR) : Option D → XR
  | some (.lst _) => x | _ => .bad
@[simp] theorem kGl_1 (x : XR) (xs : List D) : kGl x (some (.lst xs)) = x := rfl
def kEx : R (Res × Rho) → XR
  | .ok (_, ρ) => .nx ρ | .exc c d ρ => .exc c d ρ | .bad => .bad
@[simp] theorem kEx_1 (r : Res) (ρ : Rho) : kEx (.ok (r, ρ)) = .nx ρ := rfl
@[simp] theorem kEx_2 (c : Nat) (d : D) (ρ : Rho) : kEx (.exc c d ρ) = .exc c d ρ := rfl
def kRt : R (Res × Rho) → XR
  | .ok (r, ρ) => .rt r ρ | .exc c d ρ => .exc c d ρ | .bad => .bad
@[simp] theorem kRt_1 (r : Res) (ρ : Rho) : kRt (.ok (r, ρ)) = .rt r ρ := rfl
@[simp] theorem kRt_2 (c : Nat) (d : D) (ρ : Rho) : kRt (.exc c d ρ) = .exc c d ρ := rfl
def kRs (k : Nat) : R (Res × Rho) → XR
  | .ok (r, ρ) => .exc k r.d ρ | .exc c d ρ => .exc c d ρ | .bad => .bad
@[simp] theorem kRs_1 (k : Nat) (r : Res) (ρ : Rho) : kRs k (.ok (r, ρ)) = .exc k r.d ρ := rfl
def tsB (ρ : Rho) : Option D → R (Bool × Rho)
  | some (.bl b) => .ok (b, ρ) | _ => .bad
@[simp] theorem tsB_1 (ρ : Rho) (b : Bool) : tsB ρ (some (.bl b)) = .ok (b, ρ) := rfl
def tsT : R (Opd × Rho) → R (Bool × Rho)
  | .ok (x, ρ) => tsB ρ (x.get ρ) | .exc c d ρ => .exc c d ρ | .bad => .bad
@[simp] theorem tsT_1 (x : Opd) (ρ : Rho) : tsT (.ok (x, ρ)) = tsB ρ (x.get ρ) := rfl
@[simp] theorem tsT_2 (c : Nat) (d : D) (ρ : Rho) : tsT (.exc c d ρ) = .exc c d ρ := rfl
@[simp] theorem tst_1 (W : Wd) (c : E) (ρ : Rho) : tst W c ρ = tsT (pk c (ev W c) ρ) := by
  unfold tst tstR
  cases pk c (ev W c) ρ with
  | ok p =>
    obtain ⟨x, r⟩ := p
    simp only [R.bind, tsT]
    cases x.get r with
    | none => rfl
    | some d => cases d <;> rfl
  | exc c d r => rfl
  | bad => rfl
@[simp] theorem brX_1 (ρ : Rho) (h k : Rho → XR) : brX (.ok (true, ρ)) h k = h ρ := rfl
@[simp] theorem brX_2 (ρ : Rho) (h k : Rho → XR) : brX (.ok (false, ρ)) h k = k ρ := rfl
@[simp] theorem brX_3 (c : Nat) (d : D) (ρ : Rho) (h k : Rho → XR) : brX (.exc c d ρ) h k = .exc c d ρ := rfl
theorem brX_5 (ρ : Rho) (h k : Rho → XR) (b : Bool) : brX (.ok (b, ρ)) h k = if b then h ρ else k ρ := by cases b <;> rfl
section
variable (W : Wd) (ρ : Rho)
@[simp] theorem x_set (i : Nat) (e : E) : ex W (.set i e) ρ = kSet i (ev W e ρ) := by
  rw [ex]; cases ev W e ρ with
  | ok p => obtain ⟨r, ρ1⟩ := p; simp only [R.to, kSet]; cases setR ρ1 i r.slot <;> rfl
  | exc c d r => rfl
  | bad => rfl
@[simp] theorem x_par (i j : Nat) (a b : E) : ex W (.par i j a b) ρ = kPar W i j b (ev W a ρ) := by
  rw [ex]; cases ev W a ρ with
  | ok p =>
    obtain ⟨r, ρ1⟩ := p
    simp only [R.to, kPar]
    cases ev W b ρ1 with
    | ok q =>
      obtain ⟨r', ρ2⟩ := q
      simp only [kPar2]
      cases setR ρ2 i (.sh r.d) with
      | none => rfl
      | some ρ3 => simp only [XR.opt, kPar3]; cases setR ρ3 j (.sh r'.d) <;> rfl
    | exc c d r => rfl
    | bad => rfl
  | exc c d r => rfl
  | bad => rfl
@[simp] theorem x_unp (t : T) (e : E) : ex W (.unp t e) ρ = kUnp t (ev W e ρ) := by
  rw [ex]; cases ev W e ρ with
  | ok p => obtain ⟨r, ρ1⟩ := p; simp only [R.to, kUnp]; cases bindT t r.d ρ1 <;> rfl
  | exc c d r => rfl
  | bad => rfl
@[simp] theorem x_setIx (a : Nat) (i e : E) : ex W (.setIx a i e) ρ = kIx1 W a i (ev W e ρ) := by
  rw [ex]; cases ev W e ρ with
  | ok p =>
    obtain ⟨r, ρ1⟩ := p
    simp only [R.to, kIx1, gd, get_1]
    have main : (match ev W i ρ1 with
      | .ok (k, ρ2) => XR.opt .nx (modR ρ2 a (setAt k.d r.d)) | .exc c d ρ => XR.exc c d ρ | .bad => .bad) = kIx3 a r.d (ev W i ρ1) := by
      cases ev W i ρ1 with
      | ok q => obtain ⟨k, ρ2⟩ := q; simp only [kIx3]; cases modR ρ2 a (setAt k.d r.d) <;> rfl
      | exc c d r => rfl
      | bad => rfl
    cases h : ρ1[a]? with
    | none => rfl
    | some s => cases s with
      | no => rfl
      | sh d => exact main
      | ow d => exact main
      | io d => exact main
  | exc c d r => rfl
  | bad => rfl
@[simp] theorem x_augIx (op : BOp) (a : Nat) (i e : E) : ex W (.augIx op a i e) ρ = kGd (kAx1 W op a e (ev W i ρ)) (kCont ρ[a]?) := by
  rw [ex]; simp only [gd, get_1]
  cases kCont ρ[a]? with
  | none => rfl
  | some d0 =>
    simp only [kGd_1]
    cases ev W i ρ with
    | exc c d r => rfl
    | bad => rfl
    | ok p =>
      obtain ⟨k, ρ1⟩ := p
      simp only [R.to, kAx1]
      cases kCont ρ1[a]? with
      | none => rfl
      | some d =>
        cases d with
        | lst xs =>
          simp only [kAx2]
          cases ixD (.lst xs) k.d with
          | none => rfl
          | some y =>
            cases y with
            | int x =>
              simp only [kAx3]
              cases ev W e ρ1 with
              | exc c d r => rfl
              | bad => rfl
              | ok q =>
                obtain ⟨r, ρ2⟩ := q
                cases r with
                | sh d =>
                  cases d with
                  | int y =>
                    simp only [resd_1, kAx4]
                    cases aop op x y with
                    | none => rfl
                    | some z => simp only [kAx5]; cases modR ρ2 a (setAt k.d (.int z)) <;> rfl
                  | _ => rfl
                | fr d =>
                  cases d with
                  | int y =>
                    simp only [resd_2, kAx4]
                    cases aop op x y with
                    | none => rfl
                    | some z => simp only [kAx5]; cases modR ρ2 a (setAt k.d (.int z)) <;> rfl
                  | _ => rfl
            | _ => rfl
        | _ => rfl
@[simp] theorem x_aug (op : BOp) (i : Nat) (e : E) : ex W (.aug op i e) ρ = kGd (kAu1 op i (ev W e ρ)) (kCont ρ[i]?) := by
  rw [ex]; simp only [gd, get_1]
  cases kCont ρ[i]? with
  | none => rfl
  | some d0 =>
    simp only [kGd_1]
    cases ev W e ρ with
    | exc c d r => rfl
    | bad => rfl
    | ok p =>
      obtain ⟨k, ρ1⟩ := p
      simp only [R.to, kAu1]
      cases ρ1[i]? with
      | none => cases k.d <;> rfl
      | some s =>
        cases s with
        | sh x =>
          cases x with
          | int x =>
            simp only
            cases k.d with
            | int y =>
              simp only [kAu2]
              cases aop op x y with
              | none => rfl
              | some z => simp only [kAu3]; cases setR ρ1 i (.sh (.int z)) <;> rfl
            | _ => rfl
          | _ => cases k.d <;> rfl
        | _ => cases k.d <;> rfl
@[simp] theorem x_setFld (a : Nat) (f : Nat) (e : E) : ex W (.setFld a f e) ρ = kMd a (fun v => setFd W.fok f v) (ev W e ρ) := by
  rw [ex]; cases ev W e ρ with
  | ok p => obtain ⟨r, ρ1⟩ := p; simp only [R.to, kMd]; cases modR ρ1 a (setFd W.fok f r.d) <;> rfl
  | exc c d r => rfl
  | bad => rfl
theorem kGl_of (a : Nat) (x : XR) : gdl ρ a x = kGl x (kCont ρ[a]?) := by
  unfold gdl; rw [get_1]; cases kCont ρ[a]? with
  | none => rfl
  | some d => cases d <;> rfl
@[simp] theorem x_app (a : Nat) (e : E) : ex W (.app a e) ρ = kGl (kMd a appD (ev W e ρ)) (kCont ρ[a]?) := by
  rw [ex, kGl_of]; congr 1
@[simp] theorem x_ext (a : Nat) (e : E) : ex W (.ext a e) ρ = kGl (kMd a extD (ev W e ρ)) (kCont ρ[a]?) := by
  rw [ex, kGl_of]; congr 1
@[simp] theorem x_pop (a : Nat) : ex W (.pop a) ρ = kX (modR ρ a popD) := by
  rw [ex]; cases modR ρ a popD <;> rfl
@[simp] theorem x_expr (e : E) : ex W (.expr e) ρ = kEx (ev W e ρ) := by
  rw [ex]; cases ev W e ρ with
  | ok p => obtain ⟨r, ρ1⟩ := p; rfl
  | exc c d r => rfl
  | bad => rfl
@[simp] theorem x_ret (e : E) : ex W (.ret e) ρ = kRt (ev W e ρ) := by
  rw [ex]; cases ev W e ρ with
  | ok p => obtain ⟨r, ρ1⟩ := p; rfl
  | exc c d r => rfl
  | bad => rfl
@[simp] theorem x_retN : ex W .retN ρ = .rt (.sh .non) ρ := by rw [ex]
@[simp] theorem x_ite (c : E) (a b : List S) : ex W (.ite c a b) ρ = brX (tst W c ρ) (exs W a) (exs W b) := by rw [ex]
@[simp] theorem x_whl (c : E) (b : List S) : ex W (.whl c b) ρ = whlQ W c b ρ := by rw [ex]; rfl
@[simp] theorem x_for (t : T) (it : It) (b : List S) : ex W (.for_ t it b) ρ = kFor W t b (evI W it ρ) := by
  rw [ex]; cases evI W it ρ with
  | ok p => obtain ⟨r, ρ1⟩ := p; rfl
  | exc c d r => rfl
  | bad => rfl
@[simp] theorem x_raise (k : Nat) (e : E) : ex W (.raise k e) ρ = kRs k (ev W e ρ) := by
  rw [ex]; cases ev W e ρ with
  | ok p => obtain ⟨r, ρ1⟩ := p; rfl
  | exc c d r => rfl
  | bad => rfl
@[simp] theorem x_pass : ex W .pass ρ = .nx ρ := by rw [ex]
@[simp] theorem x_brk : ex W .brk ρ = .bk ρ := by rw [ex]
@[simp] theorem x_cont : ex W .cont ρ = .ct ρ := by rw [ex]
def tryE (i : Nat) : XR → XR
  | .nx ρ => kX (setR ρ i .no) | .rt r ρ => .rt r ρ
  | .bk ρ => XR.opt .bk (setR ρ i .no) | .ct ρ => XR.opt .ct (setR ρ i .no) | _ => .bad
@[simp] theorem tryE_1 (i : Nat) (ρ : Rho) : tryE i (.nx ρ) = kX (setR ρ i .no) := rfl
@[simp] theorem tryE_2 (i : Nat) (r : Res) (ρ : Rho) : tryE i (.rt r ρ) = .rt r ρ := rfl
noncomputable def tryD (i : Nat) (h : List S) : Option Rho → XR
  | some ρ => tryE i (exs W h ρ) | none => .bad
@[simp] theorem tryD_1 (i : Nat) (h : List S) : tryD W i h (some ρ) = tryE i (exs W h ρ) := rfl
noncomputable def tryC (i : Nat) (h : List S) (k : Nat) (d : D) : Option Bool → XR
  | some true => tryD W i h (setR ρ i (.sh (.exc k d))) | some false => .exc k d ρ | none => .bad
@[simp] theorem tryC_1 (i : Nat) (h : List S) (k : Nat) (d : D) : tryC W ρ i h k d (some true) = tryD W i h (setR ρ i (.sh (.exc k d))) := rfl
@[simp] theorem tryC_2 (i : Nat) (h : List S) (k : Nat) (d : D) : tryC W ρ i h k d (some false) = .exc k d ρ := rfl
noncomputable def tryB (c i : Nat) (h : List S) : XR → XR
  | .exc k d ρ => tryC W ρ i h k d (W.sub k c) | o => o
@[simp] theorem tryB_1 (c i : Nat) (h : List S) (k : Nat) (d : D) : tryB W c i h (.exc k d ρ) = tryC W ρ i h k d (W.sub k c) := rfl
@[simp] theorem tryB_2 (c i : Nat) (h : List S) : tryB W c i h (.nx ρ) = .nx ρ := rfl
@[simp] theorem tryB_3 (c i : Nat) (h : List S) (r : Res) : tryB W c i h (.rt r ρ) = .rt r ρ := rfl
@[simp] theorem x_try (b : List S) (c i : Nat) (h : List S) : ex W (.try_ b c i h) ρ = tryB W c i h (exs W b ρ) := by
  rw [ex]
  cases exs W b ρ with
  | exc k d ρ1 =>
    simp only [tryB]
    cases W.sub k c with
    | none => rfl
    | some v =>
      cases v with
      | false => rfl
      | true =>
        simp only [tryC]
        cases setR ρ1 i (.sh (.exc k d)) with
        | none => rfl
        | some ρ2 =>
          simp only [XR.opt, tryD]
          cases exs W h ρ2 with
          | nx ρ3 => simp only [tryE]; cases setR ρ3 i .no <;> rfl
          | _ => rfl
  | _ => rfl
end
end Dp
/-! Displays and loops of the small language, by what one turn does. -/
namespace Dp
open PySem
/-! ### names wiped -/
@[simp] theorem wipe_1 (ρ : Rho) : wipeR ρ [] = ρ := rfl
@[simp] theorem wipe_2 (ρ : Rho) (v : Nat) (vs : List Nat) : wipeR ρ (v :: vs) = (wipeR ρ vs).set v .no := rfl
def kUw (ρ : Rho) (v : Nat) : Option Slot → Rho
  | some (.sh d) => ρ.set v (.sh d) | _ => ρ.set v .no
@[simp] theorem kUw_1 (ρ : Rho) (v : Nat) (d : D) : kUw ρ v (some (.sh d)) = ρ.set v (.sh d) := rfl
@[simp] theorem kUw_2 (ρ : Rho) (v : Nat) (d : D) : kUw ρ v (some (.ow d)) = ρ.set v .no := rfl
@[simp] theorem kUw_3 (ρ : Rho) (v : Nat) : kUw ρ v (some .no) = ρ.set v .no := rfl
def jw : J → J
  | some (.sh d) => some (.sh d) | _ => none
@[simp] theorem kUw_4 (ρ : Rho) (v : Nat) (q : J) : kUw ρ v (some (jS q)) = ρ.set v (jS (jw q)) := by
  cases q with
  | none => rfl
  | some r => cases r <;> rfl
@[simp] theorem unw_1 (ρ0 ρ : Rho) : unwipe ρ0 ρ [] = ρ := rfl
@[simp] theorem unw_2 (ρ0 ρ : Rho) (v : Nat) (vs : List Nat) : unwipe ρ0 ρ (v :: vs) = kUw (unwipe ρ0 ρ vs) v ρ0[v]? := by
  rw [unwipe]; cases ρ0[v]? with
  | none => rfl
  | some s => cases s <;> rfl
def kWo : Option Slot → Bool
  | some (.io _) => false | _ => true
@[simp] theorem kWo_1 (d : D) : kWo (some (.sh d)) = true := rfl
@[simp] theorem kWo_2 (d : D) : kWo (some (.ow d)) = true := rfl
@[simp] theorem kWo_3 : kWo (some .no) = true := rfl
@[simp] theorem kWo_4 (q : J) : kWo (some (jS q)) = true := by
  cases q with
  | none => rfl
  | some r => cases r <;> rfl
@[simp] theorem wOk_1 (ρ : Rho) : wOk ρ [] = true := rfl
@[simp] theorem wOk_2 (ρ : Rho) (v : Nat) (vs : List Nat) : wOk ρ (v :: vs) = (kWo ρ[v]? && wOk ρ vs) := by
  unfold wOk; rw [List.all_cons]; congr 1
/-! ### one turn of a display -/
def kC3 (w : List Nat) : R (Res × Rho) → Option (Option D × Rho)
  | .ok (r, ρ) => some (some r.d, wipeR ρ w) | _ => none
@[simp] theorem kC3_1 (w : List Nat) (r : Res) (ρ : Rho) : kC3 w (.ok (r, ρ)) = some (some r.d, wipeR ρ w) := rfl
def kC2 (W : Wd) (w : List Nat) (e : E) : R (Bool × Rho) → Option (Option D × Rho)
  | .ok (true, ρ) => kC3 w (ev W e ρ) | .ok (false, ρ) => some (none, wipeR ρ w) | _ => none
@[simp] theorem kC2_1 (W : Wd) (w : List Nat) (e : E) (ρ : Rho) : kC2 W w e (.ok (true, ρ)) = kC3 w (ev W e ρ) := rfl
@[simp] theorem kC2_2 (W : Wd) (w : List Nat) (e : E) (ρ : Rho) : kC2 W w e (.ok (false, ρ)) = some (none, wipeR ρ w) := rfl
def kC1 (W : Wd) (w : List Nat) (cs : List E) (e : E) : Option Rho → Option (Option D × Rho)
  | some ρ => kC2 W w e (evT W cs ρ) | none => none
@[simp] theorem kC1_1 (W : Wd) (w : List Nat) (cs : List E) (e : E) (ρ : Rho) : kC1 W w cs e (some ρ) = kC2 W w e (evT W cs ρ) := rfl
/-- one turn -/
def cst (W : Wd) (w : List Nat) (t : T) (cs : List E) (e : E) (ρ : Rho) (x : D) : Option (Option D × Rho) := kC1 W w cs e (bindT t x ρ)
@[simp] theorem cst_1 (W : Wd) (w : List Nat) (t : T) (cs : List E) (e : E) (ρ : Rho) (x : D) : cst W w t cs e ρ x = kC1 W w cs e (bindT t x ρ) := rfl
theorem compGo_some {W : Wd} {w : List Nat} {t : T} {cs : List E} {e : E} {ρ ρ' : Rho} {x d : D} {xs acc : List D} (h : cst W w t cs e ρ x = some (some d, ρ')) (hl : acc.length < 16777216) :
    compGo w t (evT W cs) (ev W e) (x :: xs) acc ρ = compGo w t (evT W cs) (ev W e) xs (acc ++ [d]) ρ' := by
  have hlt : ltLen acc.length = true := by simp only [ltLen, decide_eq_true_eq]; omega
  simp only [cst] at h
  simp only [compGo]
  cases hb : bindT t x ρ with
  | none => simp only [hb, kC1] at h; cases h
  | some ρ1 =>
    simp only [hb, kC1] at h ⊢
    cases ht : evT W cs ρ1 with
    | bad => simp only [ht, kC2] at h; cases h
    | exc a b c => simp only [ht, kC2] at h; cases h
    | ok p =>
      obtain ⟨b, ρ2⟩ := p
      simp only [ht] at h ⊢
      cases b with
      | false => simp only [kC2] at h; cases h
      | true =>
        simp only [kC2] at h
        cases he : ev W e ρ2 with
        | bad => simp only [he, kC3] at h; cases h
        | exc a b c => simp only [he, kC3] at h; cases h
        | ok q => obtain ⟨r, ρ3⟩ := q; simp only [he, kC3] at h; cases h; simp only [he, hlt, if_true]
theorem compGo_none {W : Wd} {w : List Nat} {t : T} {cs : List E} {e : E} {ρ ρ' : Rho} {x : D} {xs acc : List D} (h : cst W w t cs e ρ x = some (none, ρ')) :
    compGo w t (evT W cs) (ev W e) (x :: xs) acc ρ = compGo w t (evT W cs) (ev W e) xs acc ρ' := by
  simp only [cst] at h
  simp only [compGo]
  cases hb : bindT t x ρ with
  | none => simp only [hb, kC1] at h; cases h
  | some ρ1 =>
    simp only [hb, kC1] at h ⊢
    cases ht : evT W cs ρ1 with
    | bad => simp only [ht, kC2] at h; cases h
    | exc a b c => simp only [ht, kC2] at h; cases h
    | ok p =>
      obtain ⟨b, ρ2⟩ := p
      simp only [ht] at h ⊢
      cases b with
      | false => simp only [kC2] at h; cases h; rfl
      | true =>
        simp only [kC2] at h
        cases he : ev W e ρ2 with
        | bad => simp only [he, kC3] at h; cases h
        | exc a b c => simp only [he, kC3] at h; cases h
        | ok q => obtain ⟨r, ρ3⟩ := q; simp only [he, kC3] at h; cases h
section
variable {W : Wd} {w : List Nat} {t : T} {cs : List E} {e : E} {α : Type}
theorem cmpQ_go (F : α → D) (mk : Nat → Rho) (G : Nat → α → Option D) : ∀ (l : List α) (k : Nat) (acc : List D),
    (∀ j (hj : j < l.length), cst W w t cs e (mk (k + j)) (F l[j]) = some (G (k + j) l[j], mk (k + j + 1))) → acc.length + l.length ≤ 16777216 →
      compGo w t (evT W cs) (ev W e) (l.map F) acc (mk k) = some (acc ++ ((l.zipIdx k).filterMap fun p => G p.2 p.1), mk (k + l.length))
  | [], k, acc, _, _ => by simp [compGo]
  | a :: l, k, acc, h, hl => by
    have h0 : cst W w t cs e (mk k) (F a) = some (G k a, mk (k + 1)) := h 0 (by simp)
    have hr : ∀ j (hj : j < l.length), cst W w t cs e (mk (k + 1 + j)) (F l[j]) = some (G (k + 1 + j) l[j], mk (k + 1 + j + 1)) := fun j hj => by
      have := h (j + 1) (by simp; omega)
      simpa [Nat.add_assoc, Nat.add_comm 1] using this
    simp only [List.length_cons] at hl
    have e1 : k + (l.length + 1) = k + 1 + l.length := by omega
    rw [List.map_cons, List.zipIdx_cons, List.filterMap_cons, List.length_cons, e1]
    cases hg : G k a with
    | none =>
      rw [hg] at h0
      rw [compGo_none h0, cmpQ_go F mk G l (k + 1) acc hr (by omega)]
    | some d =>
      rw [hg] at h0
      rw [compGo_some h0 (by omega), cmpQ_go F mk G l (k + 1) (acc ++ [d]) hr (by simp; omega)]
      simp
theorem zip_fm (G : α → Option D) : ∀ (l : List α) (k : Nat), ((l.zipIdx k).filterMap fun p => G p.1) = l.filterMap G
  | [], _ => rfl
  | a :: l, k => by rw [List.zipIdx_cons, List.filterMap_cons, List.filterMap_cons, zip_fm G l (k + 1)]
/-- a display whose turns leave all as it was -/
theorem cmp_fm {ρ : Rho} (F : α → D) (l : List α) (G : α → Option D) (hw : wOk ρ w = true) (hl : l.length ≤ 16777216) (h : ∀ a ∈ l, cst W w t cs e (wipeR ρ w) (F a) = some (G a, wipeR ρ w)) :
    cmpQ W w t cs e (l.map F) ρ = .ok (.fr (.lst (l.filterMap G)), unwipe ρ (wipeR ρ w) w) := by
  have := cmpQ_go F (fun _ => wipeR ρ w) (fun _ => G) l 0 [] (fun j hj => h _ (List.getElem_mem hj)) (by simpa using hl)
  unfold cmpQ
  rw [if_pos hw, this, zip_fm]
  rfl
theorem cmp_map {ρ : Rho} (F : α → D) (l : List α) (G : α → D) (hw : wOk ρ w = true) (hl : l.length ≤ 16777216) (h : ∀ a ∈ l, cst W w t cs e (wipeR ρ w) (F a) = some (some (G a), wipeR ρ w)) :
    cmpQ W w t cs e (l.map F) ρ = .ok (.fr (.lst (l.map G)), unwipe ρ (wipeR ρ w) w) := by
  rw [cmp_fm F l (fun a => some (G a)) hw hl h]
  simp only [List.filterMap_eq_map']
theorem cmp_filter {ρ : Rho} (F : α → D) (l : List α) (P : α → Bool) (G : α → D) (hw : wOk ρ w = true) (hl : l.length ≤ 16777216)
    (h : ∀ a ∈ l, cst W w t cs e (wipeR ρ w) (F a) = some (if P a then some (G a) else none, wipeR ρ w)) :
    cmpQ W w t cs e (l.map F) ρ = .ok (.fr (.lst ((l.filter P).map G)), unwipe ρ (wipeR ρ w) w) := by
  rw [cmp_fm F l (fun a => if P a then some (G a) else none) hw hl h]
  have : ∀ l : List α, (l.filterMap fun a => if P a then some (G a) else none) = (l.filter P).map G := by
    intro l
    induction l with
    | nil => rfl
    | cons a l ih => cases hp : P a <;> simp [List.filterMap_cons, List.filter_cons, hp, ih]
  rw [this]
/-- a display whose turns change a lent object -/
theorem cmp_st {ρ : Rho} (F : α → D) (l : List α) (mk : Rho → Nat → Rho) (G : Nat → α → D) (hw : wOk ρ w = true) (hl : l.length ≤ 16777216) (h0 : mk ρ 0 = wipeR ρ w)
    (h : ∀ j (hj : j < l.length), cst W w t cs e (mk ρ j) (F l[j]) = some (some (G j l[j]), mk ρ (j + 1))) :
    cmpQ W w t cs e (l.map F) ρ = .ok (.fr (.lst ((l.zipIdx).map fun p => G p.2 p.1)), unwipe ρ (mk ρ l.length) w) := by
  have := cmpQ_go F (mk ρ) (fun j a => some (G j a)) l 0 [] (fun j hj => by simpa using h j hj) (by simpa using hl)
  unfold cmpQ
  rw [if_pos hw, ← h0, this]
  simp only [R.opt, R.bind, List.nil_append, Nat.zero_add, List.filterMap_eq_map']
end
/-! ### one turn of a for -/
def unct : XR → XR
  | .ct ρ => .nx ρ | x => x
@[simp] theorem unct_1 (ρ : Rho) : unct (.nx ρ) = .nx ρ := rfl
@[simp] theorem unct_2 (ρ : Rho) : unct (.ct ρ) = .nx ρ := rfl
@[simp] theorem unct_3 (r : Res) (ρ : Rho) : unct (.rt r ρ) = .rt r ρ := rfl
@[simp] theorem unct_4 (ρ : Rho) : unct (.bk ρ) = .bk ρ := rfl
@[simp] theorem unct_5 (c : Nat) (d : D) (ρ : Rho) : unct (.exc c d ρ) = .exc c d ρ := rfl
noncomputable def kT (W : Wd) (b : List S) : Option Rho → XR
  | some ρ => exs W b ρ | none => .bad
@[simp] theorem kT_1 (W : Wd) (b : List S) (ρ : Rho) : kT W b (some ρ) = exs W b ρ := rfl
noncomputable def fst (W : Wd) (t : T) (b : List S) (ρ : Rho) (x : D) : XR := unct (kT W b (bindT t x ρ))
@[simp] theorem fst_1 (W : Wd) (t : T) (b : List S) (ρ : Rho) (x : D) : fst W t b ρ x = unct (kT W b (bindT t x ρ)) := rfl
theorem forGo_nx {W : Wd} {t : T} {b : List S} {ρ ρ' : Rho} {x : D} {xs : List D} (h : fst W t b ρ x = .nx ρ') : forGo t (exs W b) (x :: xs) ρ = forGo t (exs W b) xs ρ' := by
  simp only [fst] at h
  simp only [forGo]
  cases hb : bindT t x ρ with
  | none => simp only [hb, kT, unct] at h; cases h
  | some ρ1 =>
    simp only [hb, kT] at h ⊢
    cases hx : exs W b ρ1 <;> simp only [hx, unct] at h ⊢ <;> cases h <;> rfl
theorem forGo_rt {W : Wd} {t : T} {b : List S} {ρ ρ' : Rho} {x : D} {xs : List D} {r : Res} (h : fst W t b ρ x = .rt r ρ') : forGo t (exs W b) (x :: xs) ρ = .rt r ρ' := by
  simp only [fst] at h
  simp only [forGo]
  cases hb : bindT t x ρ with
  | none => simp only [hb, kT, unct] at h; cases h
  | some ρ1 =>
    simp only [hb, kT] at h ⊢
    cases hx : exs W b ρ1 <;> simp only [hx, unct] at h ⊢ <;> cases h <;> rfl
theorem forGo_exc {W : Wd} {t : T} {b : List S} {ρ ρ' : Rho} {x : D} {xs : List D} {c : Nat} {d : D} (h : fst W t b ρ x = .exc c d ρ') : forGo t (exs W b) (x :: xs) ρ = .exc c d ρ' := by
  simp only [fst] at h
  simp only [forGo]
  cases hb : bindT t x ρ with
  | none => simp only [hb, kT, unct] at h; cases h
  | some ρ1 =>
    simp only [hb, kT] at h ⊢
    cases hx : exs W b ρ1 <;> simp only [hx, unct] at h ⊢ <;> cases h <;> rfl
section
variable {W : Wd} {t : T} {b : List S} {α σ : Type} {ρ : Rho}
theorem forGo_idx (F : α → D) (mk : Nat → Rho) (ys : List D) : ∀ (l : List α) (k : Nat), (∀ j (hj : j < l.length), fst W t b (mk (k + j)) (F l[j]) = .nx (mk (k + j + 1))) →
    forGo t (exs W b) (l.map F ++ ys) (mk k) = forGo t (exs W b) ys (mk (k + l.length))
  | [], k, _ => rfl
  | a :: l, k, h => by
    have h0 : fst W t b (mk k) (F a) = .nx (mk (k + 1)) := h 0 (by simp)
    rw [List.map_cons, List.cons_append, forGo_nx h0, forGo_idx F mk ys l (k + 1) (fun j hj => by
      have := h (j + 1) (by simp; omega)
      simpa [Nat.add_assoc, Nat.add_comm 1] using this)]
    congr 2; simp only [List.length_cons]; omega
/-- a for, its names told by the turn's number -/
theorem for_idx (F : α → D) (l : List α) (mk : Rho → Nat → Rho) (h0 : mk ρ 0 = ρ) (h : ∀ j (hj : j < l.length), fst W t b (mk ρ j) (F l[j]) = .nx (mk ρ (j + 1))) :
    forQ W t b (l.map F) ρ = .nx (mk ρ l.length) := by
  have := forGo_idx F (mk ρ) [] l 0 (fun j hj => by simpa using h j hj)
  rw [h0, List.append_nil, Nat.zero_add] at this
  exact this
/-- a for, its names told by a state that each turn makes anew -/
theorem for_fold (F : α → D) (l : List α) (mk : Rho → σ → Rho) (f : σ → α → σ) (s : σ) (h0 : mk ρ s = ρ) (h : ∀ s a, a ∈ l → fst W t b (mk ρ s) (F a) = .nx (mk ρ (f s a))) :
    forQ W t b (l.map F) ρ = .nx (mk ρ (l.foldl f s)) := by
  unfold forQ
  have : ∀ (l : List α) (s : σ), (∀ s a, a ∈ l → fst W t b (mk ρ s) (F a) = .nx (mk ρ (f s a))) → forGo t (exs W b) (l.map F) (mk ρ s) = .nx (mk ρ (l.foldl f s)) := by
    intro l
    induction l with
    | nil => intro s _; rfl
    | cons a l ih => intro s h; rw [List.map_cons, forGo_nx (h s a (by simp)), ih _ fun s b hb => h s b (by simp [hb])]; rfl
  conv => lhs; rw [← h0]
  exact this l s h
/-- the same with what holds between the turns -/
theorem for_foldI (I : σ → Prop) (F : α → D) (l : List α) (mk : Rho → σ → Rho) (f : σ → α → σ) (s : σ) (h0 : mk ρ s = ρ) (hI : I s)
    (h : ∀ s a, a ∈ l → I s → fst W t b (mk ρ s) (F a) = .nx (mk ρ (f s a)) ∧ I (f s a)) :
    forQ W t b (l.map F) ρ = .nx (mk ρ (l.foldl f s)) := by
  unfold forQ
  have : ∀ (l : List α) (s : σ), I s → (∀ s a, a ∈ l → I s → fst W t b (mk ρ s) (F a) = .nx (mk ρ (f s a)) ∧ I (f s a)) → forGo t (exs W b) (l.map F) (mk ρ s) = .nx (mk ρ (l.foldl f s)) := by
    intro l
    induction l with
    | nil => intro s _ _; rfl
    | cons a l ih => intro s hI h; rw [List.map_cons, forGo_nx (h s a (by simp) hI).1, ih _ (h s a (by simp) hI).2 fun s b hb => h s b (by simp [hb])]; rfl
  conv => lhs; rw [← h0]
  exact this l s hI h
/-- a for that is left by a return -/
theorem for_ret (F : α → D) (pre post : List α) (a : α) (mk : Rho → Nat → Rho) (r : Res) (ρ' : Rho) (h0 : mk ρ 0 = ρ) (h : ∀ j (hj : j < pre.length), fst W t b (mk ρ j) (F pre[j]) = .nx (mk ρ (j + 1)))
    (ha : fst W t b (mk ρ pre.length) (F a) = .rt r ρ') : forQ W t b ((pre ++ a :: post).map F) ρ = .rt r ρ' := by
  have := forGo_idx F (mk ρ) ((a :: post).map F) pre 0 (fun j hj => by simpa using h j hj)
  rw [h0, Nat.zero_add, List.map_cons, forGo_rt ha] at this
  unfold forQ
  rw [List.map_append, List.map_cons]
  exact this
/-- a for by what holds of the names -/
theorem for_ex (I : σ → Rho → Prop) (F : α → D) (f : σ → α → σ) : ∀ (l : List α) (s : σ) (ρ : Rho), I s ρ → (∀ s a ρ, a ∈ l → I s ρ → ∃ ρ', fst W t b ρ (F a) = .nx ρ' ∧ I (f s a) ρ') →
    ∃ ρ', forQ W t b (l.map F) ρ = .nx ρ' ∧ I (l.foldl f s) ρ'
  | [], s, ρ, h, _ => ⟨ρ, rfl, h⟩
  | a :: l, s, ρ, h, st => by
    obtain ⟨ρ1, e1, h1⟩ := st s a ρ (by simp) h
    obtain ⟨ρ2, e2, h2⟩ := for_ex I F f l (f s a) ρ1 h1 fun s b ρ hb => st s b ρ (by simp [hb])
    exact ⟨ρ2, by unfold forQ at e2 ⊢; rw [List.map_cons, forGo_nx e1, e2], h2⟩
end
/-! ### a while -/
def wh {σ : Type} (c : σ → Bool) (f : σ → σ) : Nat → σ → σ
  | 0, s => s
  | n + 1, s => if c s then wh c f n (f s) else s
theorem iterW_up (c : Rho → R (Bool × Rho)) (b : Rho → XR) : ∀ (k : Nat) (ρ : Rho) (r : XR), iterW c b k ρ = some r → ∀ j, k ≤ j → iterW c b j ρ = some r
  | 0, _, _, h, _, _ => by simp only [iterW] at h; exact absurd h (by simp)
  | k + 1, ρ, r, h, j, hj => by
    obtain ⟨j, rfl⟩ : ∃ i, j = i + 1 := ⟨j - 1, by omega⟩
    have ih := iterW_up c b k
    simp only [iterW] at h ⊢
    cases hc : c ρ with
    | bad => simp only [hc] at h ⊢; exact h
    | exc c d ρ1 => simp only [hc] at h ⊢; exact h
    | ok p =>
      obtain ⟨v, ρ1⟩ := p
      cases v with
      | false => simp only [hc] at h ⊢; exact h
      | true =>
        simp only [hc] at h ⊢
        cases hb : b ρ1 with
        | nx ρ2 => simp only [hb] at h ⊢; exact ih ρ2 r h j (by omega)
        | ct ρ2 => simp only [hb] at h ⊢; exact ih ρ2 r h j (by omega)
        | bk ρ2 => simp only [hb] at h ⊢; exact h
        | rt a ρ2 => simp only [hb] at h ⊢; exact h
        | exc a d ρ2 => simp only [hb] at h ⊢; exact h
        | bad => simp only [hb] at h ⊢; exact h
theorem loopW_of {c : Rho → R (Bool × Rho)} {b : Rho → XR} {ρ : Rho} {r : XR} (k : Nat) (h : iterW c b k ρ = some r) : loopW c b ρ = r := by
  have e : ∃ r, ∃ k, iterW c b k ρ = some r := ⟨r, k, h⟩
  unfold loopW
  rw [dif_pos e]
  obtain ⟨k', h'⟩ := e.choose_spec
  have h1 := iterW_up c b k ρ r h (max k k') (Nat.le_max_left _ _)
  have h2 := iterW_up c b k' ρ _ h' (max k k') (Nat.le_max_right _ _)
  rw [h1] at h2
  exact (Option.some.inj h2).symm
theorem whl_fold {W : Wd} {c : E} {b : List S} {σ : Type} {ρ : Rho} (I : σ → Prop) (mk : Rho → σ → Rho) (cd : σ → Bool) (f : σ → σ) (μ : σ → Nat) (s : σ) (h0 : mk ρ s = ρ) (hI : I s)
    (hc : ∀ s, I s → tst W c (mk ρ s) = .ok (cd s, mk ρ s)) (hb : ∀ s, I s → cd s = true → unct (exs W b (mk ρ s)) = .nx (mk ρ (f s)) ∧ I (f s) ∧ μ (f s) < μ s) :
    whlQ W c b ρ = .nx (mk ρ (wh cd f (μ s) s)) := by
  have main : ∀ (n : Nat) (s : σ), I s → μ s ≤ n → ∃ k, iterW (tst W c) (exs W b) k (mk ρ s) = some (.nx (mk ρ (wh cd f n s))) := by
    intro n
    induction n with
    | zero =>
      intro s hI hm
      cases e : cd s with
      | true => have := (hb s hI e).2.2; omega
      | false => exact ⟨1, by simp only [iterW, hc s hI, e]; rfl⟩
    | succ n ih =>
      intro s hI hm
      cases e : cd s with
      | false => exact ⟨1, by simp only [iterW, hc s hI, e, wh]; rfl⟩
      | true =>
        obtain ⟨h1, h2, h3⟩ := hb s hI e
        obtain ⟨k, hk⟩ := ih (f s) h2 (by omega)
        refine ⟨k + 1, ?_⟩
        simp only [iterW, hc s hI, e, wh, if_true]
        cases hx : exs W b (mk ρ s) <;> simp only [hx, unct] at h1 ⊢ <;> cases h1 <;> exact hk
  obtain ⟨k, hk⟩ := main (μ s) s hI (Nat.le_refl _)
  rw [h0] at hk
  exact loopW_of k hk
end Dp
/-! What the operators of the small language give on values of known kinds. -/
namespace Dp
open PySem
def iD (xs : List Int) : List D := xs.map .int
@[simp] theorem iD_nil : iD [] = [] := rfl
theorem iD_cons (x : Int) (xs : List Int) : iD (x :: xs) = .int x :: iD xs := rfl
theorem iD_app (xs ys : List Int) : iD (xs ++ ys) = iD xs ++ iD ys := by simp [iD]
@[simp] theorem iD_len (xs : List Int) : (iD xs).length = xs.length := by simp [iD]
theorem iD_get (xs : List Int) (k : Nat) : (iD xs)[k]? = xs[k]?.map .int := by simp [iD]
theorem iD_inj {xs ys : List Int} : iD xs = iD ys ↔ xs = ys := by
  constructor
  · intro h
    have := congrArg (List.map fun d => match d with | D.int i => i | _ => 0) h
    simpa [iD, List.map_map, Function.comp_def] using this
  · rintro rfl; rfl
/-! ### bits -/
abbrev bits (i : Int) : Nat := Builtin.Int.intBits i
theorem bits_lt {i : Int} {n : Nat} (h : i.natAbs < 2 ^ n) : bits i ≤ n := by
  unfold bits Builtin.Int.intBits
  by_cases e : i = 0
  · simp [e]
  · have h0 : i.natAbs ≠ 0 := by omega
    have : i.natAbs.log2 < n := (Nat.log2_lt h0).mpr h
    have e' : (i == 0) = false := by simp [e]
    rw [e']; simp only [Bool.false_eq_true, if_false]; omega
theorem lt_bits {i : Int} {n : Nat} (h : bits i ≤ n) : i.natAbs < 2 ^ n := by
  unfold bits Builtin.Int.intBits at h
  by_cases e : i = 0
  · subst e; exact Nat.two_pow_pos n
  · have h0 : i.natAbs ≠ 0 := by omega
    have e' : (i == 0) = false := by simp [e]
    rw [e'] at h; simp only [Bool.false_eq_true, if_false] at h
    exact (Nat.log2_lt h0).mp (by omega)
theorem bits_le {i : Int} {n m : Nat} (h : bits i ≤ n) (hm : n ≤ m) : bits i ≤ m := Nat.le_trans h hm
theorem bits_mul {i j : Int} {a b : Nat} (hi : bits i ≤ a) (hj : bits j ≤ b) : bits (i * j) ≤ a + b := by
  apply bits_lt
  rw [Int.natAbs_mul, Nat.pow_add]
  have h1 := lt_bits hi
  have h2 := lt_bits hj
  exact Nat.mul_lt_mul'' h1 h2
theorem bits_add {i j : Int} {a : Nat} (hi : bits i ≤ a) (hj : bits j ≤ a) : bits (i + j) ≤ a + 1 := by
  apply bits_lt
  have h1 := lt_bits hi
  have h2 := lt_bits hj
  rw [Nat.pow_succ]; omega
theorem bits_neg {i : Int} {a : Nat} (hi : bits i ≤ a) : bits (-i) ≤ a := by
  apply bits_lt
  have h1 := lt_bits hi
  omega
theorem bits_sub {i j : Int} {a : Nat} (hi : bits i ≤ a) (hj : bits j ≤ a) : bits (i - j) ≤ a + 1 := by
  apply bits_lt
  have h1 := lt_bits hi
  have h2 := lt_bits hj
  rw [Nat.pow_succ]; omega
theorem bits_to {i : Int} {j : Int} {a : Nat} (hi : i.natAbs ≤ j.natAbs) (hj : bits j ≤ a) : bits i ≤ a := bits_lt (Nat.lt_of_le_of_lt hi (lt_bits hj))
theorem mulOk_b {i j : Int} {a b : Nat} (hi : bits i ≤ a) (hj : bits j ≤ b) (h : a + b ≤ 134217728) : mulOk i j = true := by
  unfold mulOk
  rw [decide_eq_true_eq]
  have h1 : Builtin.Int.intBits i ≤ a := hi
  have h2 : Builtin.Int.intBits j ≤ b := hj
  omega
@[simp] theorem nat_s (k : Nat) : ((k : Int) + 1 = 0) = False := by simp; omega
/-! ### operators -/
section
variable (i j : Int)
@[simp] theorem bop_add : bop .add (.int i) (.int j) = some (.sh (.int (i + j))) := rfl
@[simp] theorem bop_sub : bop .sub (.int i) (.int j) = some (.sh (.int (i - j))) := rfl
theorem bop_mul (h : mulOk i j = true) : bop .mul (.int i) (.int j) = some (.sh (.int (i * j))) := by
  rw [show bop .mul = mulD from rfl]
  simp only [mulD, h, if_true]
theorem bop_mulb (a b : Nat) (hi : bits i ≤ a) (hj : bits j ≤ b) (h : a + b ≤ 134217728) : bop .mul (.int i) (.int j) = some (.sh (.int (i * j))) := bop_mul i j (mulOk_b hi hj h)
theorem bop_mod {i j : Int} (h : 0 < j) : bop .mod (.int i) (.int j) = some (.sh (.int (i % j))) := by
  have h' : j ≠ 0 := by omega
  rw [show bop .mod = modD from rfl]
  simp only [modD]
  rw [if_pos h', Int.fmod_eq_emod_of_nonneg _ (by omega)]
theorem bop_fdiv {i j : Int} (h : 0 < j) (h2 : bits j ≤ 8000) : bop .fdiv (.int i) (.int j) = some (.sh (.int (i / j))) := by
  have h' : j ≠ 0 := by omega
  have h3 : j.natAbs.log2 < 9000 := Nat.lt_of_lt_of_le ((Nat.log2_lt (by omega)).mpr (lt_bits h2)) (by decide)
  rw [show bop .fdiv = fdivD from rfl]
  simp only [fdivD, divOkN, h', h3, decide_true, Bool.and_self, if_true, ne_eq, not_false_eq_true]
  rw [Int.fdiv_eq_ediv_of_nonneg _ (by omega)]
theorem bop_fdivN {i j : Int} (h' : j ≠ 0) (h2 : bits j ≤ 8000) : bop .fdiv (.int i) (.int j) = some (.sh (.int (i.fdiv j))) := by
  have h3 : j.natAbs.log2 < 9000 := Nat.lt_of_lt_of_le ((Nat.log2_lt (by omega)).mpr (lt_bits h2)) (by decide)
  rw [show bop .fdiv = fdivD from rfl]
  simp only [fdivD, divOkN, h', h3, decide_true, Bool.and_self, if_true, ne_eq, not_false_eq_true]
theorem bop_pow (h : 0 ≤ j ∧ j ≤ 1000000 ∧ i.natAbs < 2 ^ 64) : bop .pow (.int i) (.int j) = some (.sh (.int (i ^ j.toNat))) := by
  rw [show bop .pow = powD from rfl]
  simp only [powD, h, if_true, and_self]
@[simp] theorem cop_lt : cop .lt (.int i) (.int j) = some (decide (i < j)) := rfl
@[simp] theorem cop_le : cop .le (.int i) (.int j) = some (decide (i ≤ j)) := rfl
@[simp] theorem cop_gt : cop .gt (.int i) (.int j) = some (decide (j < i)) := rfl
@[simp] theorem cop_ge : cop .ge (.int i) (.int j) = some (decide (j ≤ i)) := rfl
@[simp] theorem cop_is (d : D) : cop .is d .non = some d.isNon := by cases d <;> rfl
@[simp] theorem cop_isN (d : D) : cop .isNot d .non = some (!d.isNon) := by cases d <;> rfl
@[simp] theorem cop_isb (a b : Bool) : cop .is (.bl a) (.bl b) = some (a == b) := by cases a <;> cases b <;> rfl
@[simp] theorem cop_isNb (a b : Bool) : cop .isNot (.bl a) (.bl b) = some (a != b) := by cases a <;> cases b <;> rfl
@[simp] theorem isNon_1 : D.isNon .non = true := rfl
@[simp] theorem isNon_2 : D.isNon (.int i) = false := rfl
@[simp] theorem isNon_3 (xs : List D) : D.isNon (.tup xs) = false := rfl
@[simp] theorem isNon_4 (xs : List D) : D.isNon (.lst xs) = false := rfl
@[simp] theorem isNon_5 (c : Nat) (d : D) : D.isNon (.exc c d) = false := rfl
@[simp] theorem isNon_6 (s : Str) : D.isNon (.str s) = false := rfl
@[simp] theorem isNon_7 (b : Bool) : D.isNon (.bl b) = false := rfl
@[simp] theorem cop_eq (d e : D) : cop .eq d e = eqD d e := rfl
def kNot : Option Bool → Option Bool
  | some b => some (!b) | none => none
@[simp] theorem kNot_1 (b : Bool) : kNot (some b) = some (!b) := rfl
@[simp] theorem cop_ne (d e : D) : cop .ne d e = kNot (eqD d e) := by
  show (eqD d e).map (!·) = _
  cases eqD d e <;> rfl
@[simp] theorem cop_in (d e : D) : cop .in_ d e = inD d e := rfl
@[simp] theorem cop_notIn (d e : D) : cop .notIn d e = kNot (inD d e) := by
  show (inD d e).map (!·) = _
  cases inD d e <;> rfl
@[simp] theorem aop_add : aop .add i j = some (i + j) := rfl
@[simp] theorem aop_sub : aop .sub i j = some (i - j) := rfl
theorem aop_mul (h : mulOk i j = true) : aop .mul i j = some (i * j) := by simp only [aop, h, if_true]
end
/-! ### places -/
theorem atI_nat {α : Type} (xs : List α) (k : Nat) : L2.atI xs (k : Int) = xs[k]? := by
  unfold L2.atI L2.ixN
  rw [if_pos (by omega)]
  by_cases h : k < xs.length
  · rw [if_pos (by omega)]; simp
  · rw [if_neg (by omega)]; simp; omega
@[simp] theorem ix_0 (x : D) (xs : List D) : ixD (.lst (x :: xs)) (.int 0) = some x := atI_nat (x :: xs) 0
@[simp] theorem ix_1 (x y : D) (xs : List D) : ixD (.lst (x :: y :: xs)) (.int 1) = some y := atI_nat (x :: y :: xs) 1
@[simp] theorem ix_2 (x y z : D) (xs : List D) : ixD (.lst (x :: y :: z :: xs)) (.int 2) = some z := atI_nat (x :: y :: z :: xs) 2
@[simp] theorem ix_3 (x y z u : D) (xs : List D) : ixD (.lst (x :: y :: z :: u :: xs)) (.int 3) = some u := atI_nat (x :: y :: z :: u :: xs) 3
@[simp] theorem tx_0 (x : D) (xs : List D) : ixD (.tup (x :: xs)) (.int 0) = some x := atI_nat (x :: xs) 0
@[simp] theorem tx_1 (x y : D) (xs : List D) : ixD (.tup (x :: y :: xs)) (.int 1) = some y := atI_nat (x :: y :: xs) 1
@[simp] theorem tx_2 (x y z : D) (xs : List D) : ixD (.tup (x :: y :: z :: xs)) (.int 2) = some z := atI_nat (x :: y :: z :: xs) 2
@[simp] theorem tx_3 (x y z u : D) (xs : List D) : ixD (.tup (x :: y :: z :: u :: xs)) (.int 3) = some u := atI_nat (x :: y :: z :: u :: xs) 3
theorem ix_nat (xs : List D) (k : Nat) : ixD (.lst xs) (.int k) = xs[k]? := atI_nat xs k
theorem tx_nat (xs : List D) (k : Nat) : ixD (.tup xs) (.int k) = xs[k]? := atI_nat xs k
theorem sx_nat (xs : List Int) (k : Nat) : ixD (.scr xs) (.int k) = xs[k]?.map .int := by
  show (L2.atI xs (k : Int)).map D.int = _
  rw [atI_nat]
theorem ixi_nat (xs : List Int) (k : Nat) : ixD (.lst (iD xs)) (.int k) = xs[k]?.map .int := by rw [ix_nat, iD_get]
theorem txi_nat (xs : List Int) (k : Nat) : ixD (.tup (iD xs)) (.int k) = xs[k]?.map .int := by rw [tx_nat, iD_get]
theorem atI_last {α : Type} (xs : List α) : L2.atI xs (-1) = xs.getLast? := by
  unfold L2.atI L2.ixN
  rw [if_neg (by omega)]
  cases xs with
  | nil => rfl
  | cons x xs =>
    rw [if_pos (by simp only [List.length_cons]; omega), List.getLast?_eq_getElem?]
    simp only [Option.bind_some, List.length_cons]
    congr 1; omega
@[simp] theorem ix_last (xs : List D) : ixD (.lst xs) (.int (-1)) = xs.getLast? := atI_last xs
@[simp] theorem tx_last (xs : List D) : ixD (.tup xs) (.int (-1)) = xs.getLast? := atI_last xs
@[simp] theorem iD_last (xs : List Int) : (iD xs).getLast? = xs.getLast?.map .int := by simp [iD]
theorem ixN_nat {n k : Nat} (h : k < n) : L2.ixN n (k : Int) = some k := by
  unfold L2.ixN
  rw [if_pos (by omega), if_pos (by omega)]; simp
theorem set_nat {xs : List D} {k : Nat} (h : k < xs.length) (v : D) : setAt (.int k) v (.lst xs) = some (.lst (xs.set k v)) := by
  simp only [setAt, ixN_nat h, Option.map_some]
theorem set_i {xs : List Int} {k : Nat} (h : k < xs.length) (v : Int) : setAt (.int k) (.int v) (.lst (iD xs)) = some (.lst (iD (xs.set k v))) := by
  rw [set_nat (by simpa using h)]; simp [iD, List.map_set]
@[simp] theorem set_0 (x v : D) (xs : List D) : setAt (.int 0) v (.lst (x :: xs)) = some (.lst (v :: xs)) := set_nat (k := 0) (by simp) v
@[simp] theorem set_1 (x y v : D) (xs : List D) : setAt (.int 1) v (.lst (x :: y :: xs)) = some (.lst (x :: v :: xs)) := set_nat (k := 1) (by simp) v
@[simp] theorem set_2 (x y z v : D) (xs : List D) : setAt (.int 2) v (.lst (x :: y :: z :: xs)) = some (.lst (x :: y :: v :: xs)) := set_nat (k := 2) (by simp) v
/-! ### built-in functions -/
@[simp] theorem len_l (xs : List D) : bi .len [.lst xs] = some (.sh (.int xs.length)) := rfl
@[simp] theorem len_t (xs : List D) : bi .len [.tup xs] = some (.sh (.int xs.length)) := rfl
@[simp] theorem len_s (xs : List Int) : bi .len [.scr xs] = some (.sh (.int xs.length)) := rfl
@[simp] theorem abs_i (i : Int) : bi .abs [.int i] = some (.sh (.int i.natAbs)) := by
  show some (Res.sh (.int (if i < 0 then -i else i))) = _
  congr 3; omega
@[simp] theorem max_i (i j : Int) : bi .max2 [.int i, .int j] = some (.sh (.int (max i j))) := by
  show some (Res.sh (.int (if j > i then j else i))) = _
  congr 3; omega
@[simp] theorem min_i (i j : Int) : bi .min2 [.int i, .int j] = some (.sh (.int (min i j))) := by
  show some (Res.sh (.int (if j < i then j else i))) = _
  congr 3; omega
@[simp] theorem tuple_l (xs : List D) : bi .tuple [.lst xs] = some (.sh (.tup xs)) := rfl
@[simp] theorem tuple_t (xs : List D) : bi .tuple [.tup xs] = some (.sh (.tup xs)) := rfl
@[simp] theorem list_l (xs : List D) : bi .list [.lst xs] = some (.fr (.lst xs)) := rfl
@[simp] theorem list_t (xs : List D) : bi .list [.tup xs] = some (.fr (.lst xs)) := rfl
@[simp] theorem list_s (xs : List Int) : bi .list [.scr xs] = some (.fr (.lst (iD xs))) := rfl
@[simp] theorem int_i (i : Int) : bi .int [.int i] = some (.sh (.int i)) := rfl
@[simp] theorem int_b (b : Bool) : bi .int [.bl b] = some (.sh (.int (if b then 1 else 0))) := rfl
def kStr : Option Str → Option Res
  | some s => some (.sh (.str s)) | none => none
@[simp] theorem kStr_1 (s : Str) : kStr (some s) = some (.sh (.str s)) := rfl
@[simp] theorem repr_d (d : D) : bi .repr [d] = kStr (shown d) := by
  show (shown d).map (fun s => Res.sh (.str s)) = _
  cases shown d <;> rfl
theorem boolsD_map {α : Type} (P : α → Bool) (l : List α) : boolsD (l.map fun a => .bl (P a)) = some (l.map P) := by
  induction l with
  | nil => rfl
  | cons a l ih => simp only [List.map_cons, boolsD, ih, Option.map_some]
theorem all_l {α : Type} (P : α → Bool) (l : List α) : bi .all_ [.lst (l.map fun a => .bl (P a))] = some (.sh (.bl (l.all P))) := by
  show (boolsD _).map _ = _
  rw [boolsD_map]; simp [List.all_map, Function.comp_def]
theorem any_l {α : Type} (P : α → Bool) (l : List α) : bi .any_ [.lst (l.map fun a => .bl (P a))] = some (.sh (.bl (l.any P))) := by
  show (boolsD _).map _ = _
  rw [boolsD_map]; simp [List.any_map, Function.comp_def]
theorem intsD_i (l : List Int) : intsD (iD l) = some l := by
  induction l with
  | nil => rfl
  | cons a l ih => rw [iD_cons]; simp only [intsD, ih, Option.map_some]
@[simp] theorem sum_l (l : List Int) : bi .sum_ [.lst (iD l)] = some (.sh (.int l.sum)) := by
  show (intsD _).map _ = _
  rw [intsD_i]; rfl
theorem okl {n : Nat} (h : n ≤ 16777216) : okLen n = true := by simp only [okLen, decide_eq_true_eq]; omega
@[simp] theorem ok_0 : okLen 0 = true := okl (by decide)
@[simp] theorem ok_1 : okLen 1 = true := okl (by decide)
@[simp] theorem ok_2 : okLen 2 = true := okl (by decide)
@[simp] theorem ok_3 : okLen 3 = true := okl (by decide)
@[simp] theorem ok_4 : okLen 4 = true := okl (by decide)
@[simp] theorem ok_5 : okLen 5 = true := okl (by decide)
@[simp] theorem ok_6 : okLen 6 = true := okl (by decide)
@[simp] theorem ok_7 : okLen 7 = true := okl (by decide)
@[simp] theorem ok_8 : okLen 8 = true := okl (by decide)
@[simp] theorem ok_9 : okLen 9 = true := okl (by decide)
@[simp] theorem ok_10 : okLen 10 = true := okl (by decide)
theorem add_l {xs ys : List D} (h : xs.length + ys.length ≤ 16777216) : bop .add (.lst xs) (.lst ys) = some (.fr (.lst (xs ++ ys))) := by
  rw [show bop .add = addD from rfl]
  simp only [addD, okl h, if_true]
theorem add_t {xs ys : List D} (h : xs.length + ys.length ≤ 16777216) : bop .add (.tup xs) (.tup ys) = some (.sh (.tup (xs ++ ys))) := by
  rw [show bop .add = addD from rfl]
  simp only [addD, okl h, if_true]
theorem add_li {xs ys : List Int} (h : xs.length + ys.length ≤ 16777216) : bop .add (.lst (iD xs)) (.lst (iD ys)) = some (.fr (.lst (iD (xs ++ ys)))) := by
  rw [add_l (by simpa using h), iD_app]
theorem rep_one (x : D) (k : Nat) : (List.replicate k [x]).flatten = List.replicate k x := by
  induction k with
  | zero => rfl
  | succ k ih => rw [List.replicate_succ, List.flatten_cons, ih]; rfl
theorem mul_l (x : D) {k : Nat} (h : k ≤ 16777216) : bop .mul (.lst [x]) (.int k) = some (.fr (.lst (List.replicate k x))) := by
  rw [show bop .mul = mulD from rfl]
  have h1 : (-(2 ^ 63) : Int) ≤ k := by omega
  have h2 : (k : Int) < 2 ^ 63 := by omega
  have h3 : okLen ([x].length * k) = true := okl (by simp; omega)
  simp only [mulD, h1, h2, decide_true, Int.toNat_natCast, h3, Bool.and_self, if_true, rep_one]
theorem iD_rep (k : Nat) (x : Int) : List.replicate k (D.int x) = iD (List.replicate k x) := by simp [iD]
theorem mul_li (x : Int) {k : Nat} (h : k ≤ 16777216) : bop .mul (.lst [.int x]) (.int k) = some (.fr (.lst (iD (List.replicate k x)))) := by
  rw [mul_l _ h, iD_rep]
/-- a number that is a length, told so -/
theorem mul_lz (x : Int) {z : Int} {k : Nat} (e : z = k) (h : k ≤ 16777216) : bop .mul (.lst [.int x]) (.int z) = some (.fr (.lst (iD (List.replicate k x)))) := by
  subst e; exact mul_li x h
theorem app_l {xs : List D} (v : D) (h : xs.length < 16777216) : appD v (.lst xs) = some (.lst (xs ++ [v])) := by
  have : ltLen xs.length = true := by simp only [ltLen, decide_eq_true_eq]; exact h
  simp only [appD, this, if_true]
theorem app_i {xs : List Int} (v : Int) (h : xs.length < 16777216) : appD (.int v) (.lst (iD xs)) = some (.lst (iD (xs ++ [v]))) := by
  rw [app_l _ (by simpa using h), iD_app]; rfl
theorem pop_l {xs : List D} (h : xs ≠ []) : popD (.lst xs) = some (.lst xs.dropLast) := by
  have : xs.length ≠ 0 := by simpa using h
  simp only [popD, this, if_false]
/-! ### instances -/
@[simp] theorem setFd_1 (fok : Nat → Nat → Bool) (f : Nat) (v : D) (c : Nat) (fs : List (Nat × D)) : setFd fok f v (.ins c fs) = if fok c f && decide (fs.length < 900) then some (.ins c (putFd f v fs)) else none := rfl
@[simp] theorem putFd_1 (f : Nat) (v : D) : putFd f v [] = [(f, v)] := rfl
@[simp] theorem putFd_2 (f : Nat) (v : D) (g : Nat) (w : D) (r : List (Nat × D)) : putFd f v ((g, w) :: r) = if g = f then (f, v) :: r else (g, w) :: putFd f v r := rfl
@[simp] theorem fldD_1 (fok : Nat → Nat → Bool) (eok : Nat → Bool) (f : Nat) (c : Nat) (fs : List (Nat × D)) : fldD fok eok f (.ins c fs) = if fok c f then fs.lookup f else none := rfl
@[simp] theorem fldD_2 (fok : Nat → Nat → Bool) (eok : Nat → Bool) (c : Nat) (v : D) : fldD fok eok 0 (.exc c v) = if eok c then some v else none := rfl
/-! ### isinstance -/
section
variable (sub : Nat → Nat → Option Bool) (i : Int) (b : Bool) (s : Str) (xs : List D)
@[simp] theorem ti_1 : tyIs sub (.int i) .int = some true := rfl
@[simp] theorem ti_2 : tyIs sub (.int i) .bool = some false := rfl
@[simp] theorem ti_3 : tyIs sub (.int i) .str = some false := rfl
@[simp] theorem ti_4 : tyIs sub (.int i) .tuple = some false := rfl
@[simp] theorem ti_5 : tyIs sub (.int i) .list = some false := rfl
@[simp] theorem tb_1 : tyIs sub (.bl b) .int = some true := rfl
@[simp] theorem tb_2 : tyIs sub (.bl b) .bool = some true := rfl
@[simp] theorem tb_3 : tyIs sub (.bl b) .str = some false := rfl
@[simp] theorem tb_4 : tyIs sub (.bl b) .tuple = some false := rfl
@[simp] theorem tb_5 : tyIs sub (.bl b) .list = some false := rfl
@[simp] theorem ts_1 : tyIs sub (.str s) .int = some false := rfl
@[simp] theorem ts_2 : tyIs sub (.str s) .bool = some false := rfl
@[simp] theorem ts_3 : tyIs sub (.str s) .str = some true := rfl
@[simp] theorem ts_4 : tyIs sub (.str s) .tuple = some false := rfl
@[simp] theorem ts_5 : tyIs sub (.str s) .list = some false := rfl
@[simp] theorem tt_1 : tyIs sub (.tup xs) .int = some false := rfl
@[simp] theorem tt_2 : tyIs sub (.tup xs) .bool = some false := rfl
@[simp] theorem tt_3 : tyIs sub (.tup xs) .str = some false := rfl
@[simp] theorem tt_4 : tyIs sub (.tup xs) .tuple = some true := rfl
@[simp] theorem tt_5 : tyIs sub (.tup xs) .list = some false := rfl
@[simp] theorem tl_1 : tyIs sub (.lst xs) .int = some false := rfl
@[simp] theorem tl_2 : tyIs sub (.lst xs) .bool = some false := rfl
@[simp] theorem tl_3 : tyIs sub (.lst xs) .str = some false := rfl
@[simp] theorem tl_4 : tyIs sub (.lst xs) .tuple = some false := rfl
@[simp] theorem tl_5 : tyIs sub (.lst xs) .list = some true := rfl
@[simp] theorem tn_1 : tyIs sub .non .int = some false := rfl
@[simp] theorem tn_2 : tyIs sub .non .bool = some false := rfl
@[simp] theorem tn_3 : tyIs sub .non .str = some false := rfl
@[simp] theorem tn_4 : tyIs sub .non .tuple = some false := rfl
@[simp] theorem tn_5 : tyIs sub .non .list = some false := rfl
@[simp] theorem te_1 (c k : Nat) (v : D) : tyIs sub (.exc c v) (.cls k) = sub c k := rfl
end
/-! ### what a for walks -/
@[simp] theorem seq_l (xs : List D) : seqOf (.lst xs) = some xs := rfl
@[simp] theorem seq_t (xs : List D) : seqOf (.tup xs) = some xs := rfl
@[simp] theorem seq_s (xs : List Int) : seqOf (.scr xs) = some (iD xs) := rfl
def nD (xs : List Nat) : List D := xs.map fun k : Nat => .int (k : Int)
@[simp] theorem nD_len (xs : List Nat) : (nD xs).length = xs.length := by simp [nD]
theorem rng_1 {z : Int} {n : Nat} (e : z = n) (h : n ≤ 16777216) : itB .rng [.int z] = some (nD (List.range n)) := by
  subst e
  have : rOk n = true := by
    have a : (-(2 ^ 62) : Int) ≤ n := by omega
    have b : (n : Int) < 2 ^ 62 := by omega
    simp only [rOk, a, b, decide_true, Bool.and_self]
  simp only [itB, this, if_true, rngL, nD]
  rw [show ((n : Int) - 0).toNat = n by omega]
  exact congrArg some (List.map_congr_left fun k _ => by rw [Int.zero_add])
theorem enumL_map {α : Type} (F : α → D) : ∀ (l : List α) (k : Nat), enumL k (l.map F) = (l.zipIdx k).map fun p => .tup [.int p.2, F p.1]
  | [], _ => rfl
  | a :: l, k => by simp only [List.map_cons, enumL, List.zipIdx_cons, enumL_map F l (k + 1)]
theorem zipL_map {α β : Type} (F : α → D) (G : β → D) : ∀ (l : List α) (m : List β), zipL (l.map F) (m.map G) = (l.zip m).map fun p => .tup [F p.1, G p.2]
  | [], _ => by simp [zipL]
  | a :: l, [] => by simp [zipL]
  | a :: l, b :: m => by simp only [List.map_cons, zipL, List.zip_cons_cons, zipL_map F G l m]
def enD (l : List Int) : List D := l.zipIdx.map fun p => .tup [.int p.2, .int p.1]
def zpD (l m : List Int) : List D := (l.zip m).map fun p => .tup [.int p.1, .int p.2]
@[simp] theorem enum_l (l : List Int) : itB .enum [.lst (iD l)] = some (enD l) := by
  simp only [itB, seq_l, Option.map_some, iD, enumL_map, enD]
@[simp] theorem enum_t (l : List Int) : itB .enum [.tup (iD l)] = some (enD l) := by
  simp only [itB, seq_t, Option.map_some, iD, enumL_map, enD]
@[simp] theorem zip_ll (l m : List Int) : itB .zip [.lst (iD l), .lst (iD m)] = some (zpD l m) := by
  simp only [itB, seq_l, iD, zipL_map, zpD]
@[simp] theorem zip_tt (l m : List Int) : itB .zip [.tup (iD l), .tup (iD m)] = some (zpD l m) := by
  simp only [itB, seq_t, iD, zipL_map, zpD]
/-! ### displays and loops over numbers -/
section
variable {W : Wd} {w : List Nat} {t : T} {cs : List E} {e : E} {ρ : Rho}
theorem cmpI_map {l : List Int} (g : Int → Int) (hw : wOk ρ w = true) (hl : l.length ≤ 16777216) (h : ∀ a ∈ l, cst W w t cs e (wipeR ρ w) (.int a) = some (some (.int (g a)), wipeR ρ w)) :
    cmpQ W w t cs e (iD l) ρ = .ok (.fr (.lst (iD (l.map g))), unwipe ρ (wipeR ρ w) w) := by
  rw [iD, cmp_map D.int l (fun a => .int (g a)) hw hl h]; simp [iD]
theorem cmpI_to {l : List Int} (G : Int → D) (hw : wOk ρ w = true) (hl : l.length ≤ 16777216) (h : ∀ a ∈ l, cst W w t cs e (wipeR ρ w) (.int a) = some (some (G a), wipeR ρ w)) :
    cmpQ W w t cs e (iD l) ρ = .ok (.fr (.lst (l.map G)), unwipe ρ (wipeR ρ w) w) := by
  rw [iD, cmp_map D.int l G hw hl h]
theorem cmpN_map {l : List Nat} (g : Nat → Int) (hw : wOk ρ w = true) (hl : l.length ≤ 16777216) (h : ∀ a ∈ l, cst W w t cs e (wipeR ρ w) (.int (a : Int)) = some (some (.int (g a)), wipeR ρ w)) :
    cmpQ W w t cs e (nD l) ρ = .ok (.fr (.lst (iD (l.map g))), unwipe ρ (wipeR ρ w) w) := by
  rw [nD, cmp_map (fun k : Nat => D.int k) l (fun a => .int (g a)) hw hl h]; simp [iD]
theorem cmpN_to {l : List Nat} (G : Nat → D) (hw : wOk ρ w = true) (hl : l.length ≤ 16777216) (h : ∀ a ∈ l, cst W w t cs e (wipeR ρ w) (.int (a : Int)) = some (some (G a), wipeR ρ w)) :
    cmpQ W w t cs e (nD l) ρ = .ok (.fr (.lst (l.map G)), unwipe ρ (wipeR ρ w) w) := by
  rw [nD, cmp_map (fun k : Nat => D.int k) l G hw hl h]
theorem cmpZ_map {l m : List Int} (g : Int → Int → Int) (hw : wOk ρ w = true) (hl : l.length ≤ 16777216) (h : ∀ a b, cst W w t cs e (wipeR ρ w) (.tup [.int a, .int b]) = some (some (.int (g a b)), wipeR ρ w)) :
    cmpQ W w t cs e (zpD l m) ρ = .ok (.fr (.lst (iD (List.zipWith g l m))), unwipe ρ (wipeR ρ w) w) := by
  rw [zpD, cmp_map _ _ (fun p : Int × Int => .int (g p.1 p.2)) hw (by simp; omega) (fun p _ => h p.1 p.2)]
  have : ∀ l m : List Int, (l.zip m).map (fun p : Int × Int => D.int (g p.1 p.2)) = iD (List.zipWith g l m) := by
    intro l
    induction l with
    | nil => intro m; simp
    | cons a l ih => intro m; cases m with
      | nil => simp
      | cons b m => simp only [List.zip_cons_cons, List.map_cons, ih, List.zipWith_cons_cons, iD_cons]
  rw [this]
theorem forI_fold {σ : Type} {b : List S} {l : List Int} (mk : Rho → σ → Rho) (f : σ → Int → σ) (s : σ) (h0 : mk ρ s = ρ) (h : ∀ s a, a ∈ l → fst W t b (mk ρ s) (.int a) = .nx (mk ρ (f s a))) :
    forQ W t b (iD l) ρ = .nx (mk ρ (l.foldl f s)) := for_fold D.int l mk f s h0 h
theorem forN_idx {b : List S} {n : Nat} (mk : Rho → Nat → Rho) (h0 : mk ρ 0 = ρ) (h : ∀ j, j < n → fst W t b (mk ρ j) (.int (j : Int)) = .nx (mk ρ (j + 1))) :
    forQ W t b (nD (List.range n)) ρ = .nx (mk ρ n) := by
  have := for_idx (W := W) (t := t) (b := b) (ρ := ρ) (fun k : Nat => D.int k) (List.range n) mk h0 (fun j hj => by
    rw [List.length_range] at hj
    rw [List.getElem_range]; exact h j hj)
  rw [List.length_range] at this
  exact this
theorem forE_idx {b : List S} {l : List Int} (mk : Rho → Nat → Rho) (h0 : mk ρ 0 = ρ) (h : ∀ j (hj : j < l.length), fst W t b (mk ρ j) (.tup [.int (j : Int), .int l[j]]) = .nx (mk ρ (j + 1))) :
    forQ W t b (enD l) ρ = .nx (mk ρ l.length) := by
  have := for_idx (W := W) (t := t) (b := b) (ρ := ρ) (fun p : Int × Nat => D.tup [.int p.2, .int p.1]) l.zipIdx mk h0 (fun j hj => by
    rw [List.length_zipIdx] at hj
    rw [List.getElem_zipIdx]; simpa using h j hj)
  rw [List.length_zipIdx] at this
  exact this
/-- a for by what holds of the names behind each turn -/
theorem idx_ex {α : Type} {b : List S} (F : α → D) (I : Nat → Rho → Prop) (l : List α) (h0 : I 0 ρ) (h : ∀ j (hj : j < l.length) ρ, I j ρ → ∃ ρ', fst W t b ρ (F l[j]) = .nx ρ' ∧ I (j + 1) ρ') :
    ∃ ρ', forQ W t b (l.map F) ρ = .nx ρ' ∧ I l.length ρ' := by
  have main : ∀ (k : Nat) (m : List α) (ρ : Rho), m = l.drop k → k ≤ l.length → I k ρ → ∃ ρ', forGo t (exs W b) (m.map F) ρ = .nx ρ' ∧ I l.length ρ' := by
    intro k m
    induction m generalizing k with
    | nil =>
      intro ρ e hk hI
      have : (l.drop k).length = 0 := by rw [← e]; rfl
      rw [List.length_drop] at this
      have : k = l.length := by omega
      subst this
      exact ⟨ρ, rfl, hI⟩
    | cons a m ih =>
      intro ρ e hk hI
      have hlt : k < l.length := by
        have : (l.drop k).length = m.length + 1 := by rw [← e]; rfl
        rw [List.length_drop] at this; omega
      have e2 := List.drop_eq_getElem_cons hlt
      rw [e2] at e
      obtain ⟨e3, e4⟩ := List.cons.inj e
      obtain ⟨ρ1, h1, h2⟩ := h k hlt ρ hI
      obtain ⟨ρ2, h3, h4⟩ := ih (k + 1) ρ1 e4 hlt h2
      exact ⟨ρ2, by rw [List.map_cons, e3, forGo_nx h1, h3], h4⟩
  exact main 0 l ρ rfl (Nat.zero_le _) h0
theorem forE_ex {b : List S} {l : List Int} (I : Nat → Rho → Prop) (h0 : I 0 ρ) (h : ∀ j (hj : j < l.length) ρ, I j ρ → ∃ ρ', fst W t b ρ (.tup [.int (j : Int), .int l[j]]) = .nx ρ' ∧ I (j + 1) ρ') :
    ∃ ρ', forQ W t b (enD l) ρ = .nx ρ' ∧ I l.length ρ' := by
  obtain ⟨ρ', h1, h2⟩ := idx_ex (W := W) (t := t) (b := b) (ρ := ρ) (fun p : Int × Nat => D.tup [.int p.2, .int p.1]) I l.zipIdx h0 (fun j hj => by
    rw [List.length_zipIdx] at hj
    rw [List.getElem_zipIdx]; simpa using h j hj)
  rw [List.length_zipIdx] at h2
  exact ⟨ρ', h1, h2⟩
theorem forN_ex {b : List S} {n : Nat} (I : Nat → Rho → Prop) (h0 : I 0 ρ) (h : ∀ j ρ, j < n → I j ρ → ∃ ρ', fst W t b ρ (.int (j : Int)) = .nx ρ' ∧ I (j + 1) ρ') :
    ∃ ρ', forQ W t b (nD (List.range n)) ρ = .nx ρ' ∧ I n ρ' := by
  obtain ⟨ρ', h1, h2⟩ := idx_ex (W := W) (t := t) (b := b) (ρ := ρ) (fun k : Nat => D.int k) I (List.range n) h0 (fun j hj => by
    rw [List.length_range] at hj
    rw [List.getElem_range]; exact fun ρ hI => h j ρ hj hI)
  rw [List.length_range] at h2
  exact ⟨ρ', h1, h2⟩
theorem forI_ex {b : List S} {l : List Int} (I : Nat → Rho → Prop) (h0 : I 0 ρ) (h : ∀ j (hj : j < l.length) ρ, I j ρ → ∃ ρ', fst W t b ρ (.int l[j]) = .nx ρ' ∧ I (j + 1) ρ') :
    ∃ ρ', forQ W t b (iD l) ρ = .nx ρ' ∧ I l.length ρ' := idx_ex D.int I l h0 h
end
/-- behind a part whose names are told by what holds of them -/
theorem seq_ex {x : XR} {K : Rho → XR} {np : Nat} {c : CR} (I : Rho → Prop) (h : ∃ ρ', x = .nx ρ' ∧ I ρ') (k : ∀ ρ', I ρ' → finR np (K ρ') = c) : finR np (seqX x K) = c := by
  obtain ⟨ρ', e, hI⟩ := h
  rw [e]; exact k ρ' hI
end Dp
/-! ==, repr, and what they need. -/
namespace Dp
open PySem
/-! ### plain data -/
/-- plain data of a depth to n -/
def Pl (n : Nat) (d : D) : Prop := ∃ p, d.toPy = some p ∧ p.canLay0 = true ∧ p.depth ≤ n
def PlL (n : Nat) (ds : List D) : Prop := ∃ ps, D.toPy.toPyL ds = some ps ∧ PyData.canLayAll0 ps = true ∧ PyData.depthAll ps ≤ n
theorem pl_int (n : Nat) (i : Int) : Pl n (.int i) := ⟨_, rfl, by simp [PyData.canLay0], by simp [PyData.depth]⟩
theorem pl_bl (n : Nat) (b : Bool) : Pl n (.bl b) := ⟨_, rfl, by simp [PyData.canLay0], by simp [PyData.depth]⟩
theorem pl_non (n : Nat) : Pl n .non := ⟨_, rfl, by simp [PyData.canLay0], by simp [PyData.depth]⟩
theorem pl_str (n : Nat) {s : Str} (h : PyData.strOk s = true) : Pl n (.str s) := ⟨_, rfl, by simpa [PyData.canLay0] using h, by simp [PyData.depth]⟩
theorem plL_nil (n : Nat) : PlL n [] := ⟨[], rfl, by simp [PyData.canLayAll0], by simp [PyData.depthAll]⟩
theorem plL_cons {n : Nat} {d : D} {ds : List D} (h : Pl n d) (hs : PlL n ds) : PlL n (d :: ds) := by
  obtain ⟨p, h1, h2, h3⟩ := h
  obtain ⟨ps, g1, g2, g3⟩ := hs
  refine ⟨p :: ps, by simp only [D.toPy.toPyL, h1, g1], by simp only [PyData.canLayAll0, h2, g2, Bool.and_self], ?_⟩
  simp only [PyData.depthAll]; omega
theorem plL_all {n : Nat} {ds : List D} (h : ∀ d ∈ ds, Pl n d) : PlL n ds := by
  induction ds with
  | nil => exact plL_nil n
  | cons d ds ih => exact plL_cons (h d (by simp)) (ih fun e he => h e (by simp [he]))
theorem pl_tup {n : Nat} {ds : List D} (h : PlL n ds) : Pl (n + 1) (.tup ds) := by
  obtain ⟨ps, g1, g2, g3⟩ := h
  refine ⟨.tuple ps, by simp only [D.toPy, g1, Option.map_some], by simp only [PyData.canLay0, g2], ?_⟩
  simp only [PyData.depth]; omega
theorem pl_lst {n : Nat} {ds : List D} (h : PlL n ds) : Pl (n + 1) (.lst ds) := by
  obtain ⟨ps, g1, g2, g3⟩ := h
  refine ⟨.list ps, by simp only [D.toPy, g1, Option.map_some], by simp only [PyData.canLay0, g2], ?_⟩
  simp only [PyData.depth]; omega
theorem Pl.mono {n m : Nat} {d : D} (h : Pl n d) (hm : n ≤ m) : Pl m d := by
  obtain ⟨p, h1, h2, h3⟩ := h
  exact ⟨p, h1, h2, by omega⟩
theorem plL_i (n : Nat) (xs : List Int) : PlL n (iD xs) := plL_all fun d hd => by
  obtain ⟨i, _, rfl⟩ := List.mem_map.1 hd
  exact pl_int n i
theorem pl_ti (n : Nat) (xs : List Int) : Pl (n + 1) (.tup (iD xs)) := pl_tup (plL_i n xs)
theorem pl_li (n : Nat) (xs : List Int) : Pl (n + 1) (.lst (iD xs)) := pl_lst (plL_i n xs)
/-! ### == -/
mutual
def eqB : D → D → Bool
  | .non, .non => true
  | .bl a, .bl b => a == b
  | .bl a, .int j => (if a then 1 else 0) == j
  | .int i, .bl b => i == (if b then 1 else 0)
  | .int i, .int j => i == j
  | .str x, .str y => x == y
  | .lst xs, .lst ys => eqBs xs ys
  | .tup xs, .tup ys => eqBs xs ys
  | _, _ => false
def eqBs : List D → List D → Bool
  | [], [] => true
  | x :: xs, y :: ys => eqB x y && eqBs xs ys
  | _, _ => false
end
mutual
theorem eqB_py : ∀ (d e : D) (p q : PyData), d.toPy = some p → e.toPy = some q → PyData.eqv p q = eqB d e
  | .non, e, p, q, h, h' => by cases h; cases e <;> simp only [D.toPy, Option.map_eq_some_iff, Option.some.injEq, reduceCtorEq] at h' <;> first | (subst h'; simp [PyData.eqv, eqB]; done) | (obtain ⟨_, _, rfl⟩ := h'; simp [PyData.eqv, eqB]; done)
  | .bl a, e, p, q, h, h' => by cases h; cases e <;> simp only [D.toPy, Option.map_eq_some_iff, Option.some.injEq, reduceCtorEq] at h' <;> first | (subst h'; simp [PyData.eqv, eqB]; done) | (obtain ⟨_, _, rfl⟩ := h'; simp [PyData.eqv, eqB]; done)
  | .int a, e, p, q, h, h' => by cases h; cases e <;> simp only [D.toPy, Option.map_eq_some_iff, Option.some.injEq, reduceCtorEq] at h' <;> first | (subst h'; simp [PyData.eqv, eqB]; done) | (obtain ⟨_, _, rfl⟩ := h'; simp [PyData.eqv, eqB]; done)
  | .str a, e, p, q, h, h' => by cases h; cases e <;> simp only [D.toPy, Option.map_eq_some_iff, Option.some.injEq, reduceCtorEq] at h' <;> first | (subst h'; simp [PyData.eqv, eqB]; done) | (obtain ⟨_, _, rfl⟩ := h'; simp [PyData.eqv, eqB]; done)
  | .tup xs, e, p, q, h, h' => by
    simp only [D.toPy, Option.map_eq_some_iff] at h
    obtain ⟨ps, h1, rfl⟩ := h
    cases e with
    | tup ys =>
      simp only [D.toPy, Option.map_eq_some_iff] at h'
      obtain ⟨qs, h2, rfl⟩ := h'
      simp only [PyData.eqv, eqB]; exact eqBs_py xs ys ps qs h1 h2
    | lst ys => simp only [D.toPy, Option.map_eq_some_iff] at h'; obtain ⟨qs, h2, rfl⟩ := h'; simp [PyData.eqv, eqB]
    | _ => simp only [D.toPy, Option.some.injEq, reduceCtorEq] at h' <;> (subst h'; simp [PyData.eqv, eqB])
  | .lst xs, e, p, q, h, h' => by
    simp only [D.toPy, Option.map_eq_some_iff] at h
    obtain ⟨ps, h1, rfl⟩ := h
    cases e with
    | lst ys =>
      simp only [D.toPy, Option.map_eq_some_iff] at h'
      obtain ⟨qs, h2, rfl⟩ := h'
      simp only [PyData.eqv, eqB]; exact eqBs_py xs ys ps qs h1 h2
    | tup ys => simp only [D.toPy, Option.map_eq_some_iff] at h'; obtain ⟨qs, h2, rfl⟩ := h'; simp [PyData.eqv, eqB]
    | _ => simp only [D.toPy, Option.some.injEq, reduceCtorEq] at h' <;> (subst h'; simp [PyData.eqv, eqB])
  | .ins c fs, e, p, q, h, h' => by simp [D.toPy] at h
  | .exc c fs, e, p, q, h, h' => by simp [D.toPy] at h
  | .scr c, e, p, q, h, h' => by simp [D.toPy] at h
theorem eqBs_py : ∀ (ds es : List D) (ps qs : List PyData), D.toPy.toPyL ds = some ps → D.toPy.toPyL es = some qs → PyData.eqvAll ps qs = eqBs ds es
  | [], es, ps, qs, h, h' => by
    cases h
    cases es with
    | nil => cases h'; simp [PyData.eqvAll, eqBs]
    | cons e es =>
      simp only [D.toPy.toPyL] at h'
      split at h'
      · cases h'; simp [PyData.eqvAll, eqBs]
      · cases h'
  | d :: ds, es, ps, qs, h, h' => by
    simp only [D.toPy.toPyL] at h
    split at h
    · rename_i p ps1 h1 h2
      cases h
      cases es with
      | nil => cases h'; simp [PyData.eqvAll, eqBs]
      | cons e es =>
        simp only [D.toPy.toPyL] at h'
        split at h'
        · rename_i q qs1 g1 g2
          cases h'
          simp only [PyData.eqvAll, eqBs, eqB_py d e p q h1 g1, eqBs_py ds es ps1 qs1 h2 g2]
        · cases h'
    · cases h
end
theorem eqD_pl {d e : D} (h : Pl 60 d) (h' : Pl 60 e) : eqD d e = some (eqB d e) := by
  obtain ⟨p, h1, h2, h3⟩ := h
  obtain ⟨q, g1, g2, g3⟩ := h'
  have s1 : SeqAt.shaped p = true := by unfold SeqAt.shaped; rw [h2]; simp; omega
  have s2 : SeqAt.shaped q = true := by unfold SeqAt.shaped; rw [g2]; simp; omega
  unfold eqD
  simp only [h1, g1, s1, s2, Bool.and_self, if_true, eqB_py d e p q h1 g1]
@[simp] theorem eqB_i (i j : Int) : eqB (.int i) (.int j) = decide (i = j) := by
  simp only [eqB]; by_cases h : i = j <;> simp [h]
@[simp] theorem eqB_s (i j : Str) : eqB (.str i) (.str j) = decide (i = j) := by
  simp only [eqB]; by_cases h : i = j <;> simp [h]
@[simp] theorem eqB_t (i j : List D) : eqB (.tup i) (.tup j) = eqBs i j := by simp only [eqB]
@[simp] theorem eqB_l (i j : List D) : eqB (.lst i) (.lst j) = eqBs i j := by simp only [eqB]
@[simp] theorem eqBs_1 : eqBs [] [] = true := by simp only [eqBs]
@[simp] theorem eqBs_2 (d e : D) (ds es : List D) : eqBs (d :: ds) (e :: es) = (eqB d e && eqBs ds es) := by simp only [eqBs]
@[simp] theorem eqBs_3 (d : D) (ds : List D) : eqBs (d :: ds) [] = false := by simp only [eqBs]
@[simp] theorem eqBs_4 (d : D) (ds : List D) : eqBs [] (d :: ds) = false := by simp only [eqBs]
@[simp] theorem eqBs_i (xs ys : List Int) : eqBs (iD xs) (iD ys) = decide (xs = ys) := by
  induction xs generalizing ys with
  | nil => cases ys <;> simp [iD_cons]
  | cons x xs ih =>
    cases ys with
    | nil => simp [iD_cons]
    | cons y ys =>
      simp only [iD_cons, eqBs_2, eqB_i, ih]
      by_cases h1 : x = y <;> by_cases h2 : xs = ys <;> simp [h1, h2]
mutual
theorem eqB_refl : ∀ (d : D) (p : PyData), d.toPy = some p → eqB d d = true
  | .non, _, _ => by simp [eqB]
  | .bl _, _, _ => by simp [eqB]
  | .int _, _, _ => by simp [eqB]
  | .str _, _, _ => by simp [eqB]
  | .tup xs, p, h => by
    simp only [D.toPy, Option.map_eq_some_iff] at h
    obtain ⟨ps, h1, _⟩ := h
    simp only [eqB]; exact eqBs_refl xs ps h1
  | .lst xs, p, h => by
    simp only [D.toPy, Option.map_eq_some_iff] at h
    obtain ⟨ps, h1, _⟩ := h
    simp only [eqB]; exact eqBs_refl xs ps h1
  | .ins _ _, _, h => by simp [D.toPy] at h
  | .exc _ _, _, h => by simp [D.toPy] at h
  | .scr _, _, h => by simp [D.toPy] at h
theorem eqBs_refl : ∀ (ds : List D) (ps : List PyData), D.toPy.toPyL ds = some ps → eqBs ds ds = true
  | [], _, _ => by simp
  | d :: ds, ps, h => by
    simp only [D.toPy.toPyL] at h
    split at h
    · rename_i p ps1 h1 h2
      simp only [eqBs_2, eqB_refl d p h1, eqBs_refl ds ps1 h2, Bool.and_self]
    · cases h
end
theorem eqB_pl {n : Nat} {d : D} (h : Pl n d) : eqB d d = true := by
  obtain ⟨p, h1, _⟩ := h
  exact eqB_refl d p h1
@[simp] theorem eqD_i (i j : Int) : eqD (.int i) (.int j) = some (decide (i = j)) := by rw [eqD_pl (pl_int 60 i) (pl_int 60 j), eqB_i]
@[simp] theorem eqD_b (i j : Bool) : eqD (.bl i) (.bl j) = some (i == j) := by rw [eqD_pl (pl_bl 60 i) (pl_bl 60 j)]; simp only [eqB]
theorem eqD_s {i j : Str} (h : PyData.strOk i = true) (h' : PyData.strOk j = true) : eqD (.str i) (.str j) = some (decide (i = j)) := by rw [eqD_pl (pl_str 60 h) (pl_str 60 h'), eqB_s]
@[simp] theorem eqD_ti (xs ys : List Int) : eqD (.tup (iD xs)) (.tup (iD ys)) = some (decide (xs = ys)) := by rw [eqD_pl (pl_ti 59 xs) (pl_ti 59 ys), eqB_t, eqBs_i]
@[simp] theorem eqD_ti0 (xs : List Int) : eqD (.tup (iD xs)) (.tup []) = some (decide (xs = [])) := eqD_ti xs []
@[simp] theorem eqD_t0i (xs : List Int) : eqD (.tup []) (.tup (iD xs)) = some (decide ([] = xs)) := eqD_ti [] xs
@[simp] theorem eqD_li (xs ys : List Int) : eqD (.lst (iD xs)) (.lst (iD ys)) = some (decide (xs = ys)) := by rw [eqD_pl (pl_li 59 xs) (pl_li 59 ys), eqB_l, eqBs_i]
/-! ### texts -/
theorem ok_of (s : String) : PyData.strOk (Str.ofString s) = true := by
  rw [Str.ofString_eq_toList]
  simp only [PyData.strOk, List.all_toArray, List.all_map, List.all_eq_true, decide_eq_true_eq, Function.comp]
  intro c _
  have := c.valid
  simp only [UInt32.isValidChar, Nat.isValidChar] at this
  show c.val.toNat < 0x110000
  omega
theorem ok_app {a b : Str} (h : PyData.strOk a = true) (h' : PyData.strOk b = true) : PyData.strOk (a ++ b) = true := by
  simp only [PyData.strOk] at h h' ⊢
  rw [Str.cps_append, Array.all_append, h, h', Bool.and_self]
theorem ok_join {sep : Str} (h : PyData.strOk sep = true) : ∀ ts : List Str, (∀ t ∈ ts, PyData.strOk t = true) → PyData.strOk (Str.join sep ts) = true
  | [], _ => by simp [Str.join, PyData.strOk, Str.empty]
  | [x], g => by simp only [Str.join]; exact g x (by simp)
  | x :: y :: r, g => by
    rw [show Str.join sep (x :: y :: r) = x ++ sep ++ Str.join sep (y :: r) by simp only [Str.join]]
    exact ok_app (ok_app (g x (by simp)) h) (ok_join h (y :: r) fun t ht => g t (by simp [ht]))
theorem ok_from : ∀ (ts : List Str) (k : Nat) (acc : Str), PyData.strOk acc = true → (∀ t ∈ ts, PyData.strOk t = true) → PyData.strOk (textFrom k acc ts) = true
  | [], _, _, h, _ => h
  | t :: ts, k, acc, h, g => ok_from ts (k + 1) _ (ok_app (ok_app h (ok_of _)) (g t (by simp))) fun u hu => g u (by simp [hu])
theorem ok_list {ts : List Str} (g : ∀ t ∈ ts, PyData.strOk t = true) : PyData.strOk (listText ts) = true := ok_app (ok_from ts 0 _ (ok_of _) g) (ok_of _)
theorem ok_tuple {ts : List Str} (g : ∀ t ∈ ts, PyData.strOk t = true) : PyData.strOk (tupleText ts) = true := ok_app (ok_app (ok_of _) (ok_join (ok_of _) ts g)) (ok_of _)
/-! ### repr -/
/-- data small enough to be written: a depth to n, a weight to w -/
structure Sm (n w : Nat) (d : D) (p : PyData) : Prop where
  py : d.toPy = some p
  lay : p.canLay0 = true
  dep : p.depth ≤ n
  sho : p.showable = true
  sh : p.intsShort 1921 = true
  wei : p.weight ≤ w
  txt : PyData.strOk p.shown = true
structure SmL (n w : Nat) (ds : List D) (ps : List PyData) : Prop where
  py : D.toPy.toPyL ds = some ps
  lay : PyData.canLayAll0 ps = true
  dep : PyData.depthAll ps ≤ n
  sho : PyData.showableAll ps = true
  sh : PyData.intsShortAll 1921 ps = true
  wei : PyData.weightAll ps ≤ w
  txt : ∀ t ∈ PyData.shownAll ps, PyData.strOk t = true
theorem sm_int {i : Int} {w : Nat} (h : bits i ≤ w) (hw : w ≤ 1920) : Sm 0 w (.int i) (.int i) := by
  have h1 : i.natAbs.log2 < 1920 := by
    by_cases e : i.natAbs = 0
    · rw [e]; decide
    · exact Nat.lt_of_lt_of_le ((Nat.log2_lt e).mpr (lt_bits h)) hw
  refine ⟨rfl, rfl, by simp [PyData.depth], by simpa [PyData.showable] using h1, ?_, ?_, ?_⟩
  · simp only [PyData.intsShort, decide_eq_true_eq]
    show (Str.ofString (toString i)).length ≤ 1921
    rw [ofString_length]
    exact int_text_length_le (k := 1920) (by decide) h1
  · have e : PyData.weight (.int i) = bits i := by simp only [PyData.weight]; rfl
    rw [e]; exact h
  · simp only [PyData.shown]; exact ok_of _
theorem sm_bl (b : Bool) : Sm 0 0 (.bl b) (.bool b) := ⟨rfl, rfl, by simp [PyData.depth], rfl, rfl, by simp [PyData.weight], by cases b <;> (simp only [PyData.shown]; exact ok_of _)⟩
theorem sm_non : Sm 0 0 .non .none := ⟨rfl, rfl, by simp [PyData.depth], rfl, rfl, by simp [PyData.weight], by simp only [PyData.shown]; exact ok_of _⟩
theorem sm_str {s : Str} (h : PyData.strOk s = true) (h2 : PyData.strOk (PyData.shown (.str s)) = true) {w : Nat} (hw : s.length ≤ w) : Sm 0 w (.str s) (.str s) :=
  ⟨rfl, by simpa [PyData.canLay0] using h, by simp [PyData.depth], rfl, rfl, by simpa [PyData.weight, Str.length] using hw, h2⟩
theorem smL_nil : SmL 0 0 [] [] := ⟨rfl, rfl, by simp [PyData.depthAll], rfl, rfl, by simp [PyData.weightAll], by simp [PyData.shownAll]⟩
theorem smL_cons {n m w v : Nat} {d : D} {p : PyData} {ds : List D} {ps : List PyData} (h : Sm n w d p) (hs : SmL m v ds ps) : SmL (max n m) (w + 1 + v) (d :: ds) (p :: ps) := by
  obtain ⟨h1, h2, h3, h4, h5, h6, h7⟩ := h
  obtain ⟨g1, g2, g3, g4, g5, g6, g7⟩ := hs
  refine ⟨by simp only [D.toPy.toPyL, h1, g1], by simp only [PyData.canLayAll0, h2, g2, Bool.and_self], ?_, by simp only [PyData.showableAll, h4, g4, Bool.and_self],
    by simp only [PyData.intsShortAll, h5, g5, Bool.and_self], ?_, ?_⟩
  · simp only [PyData.depthAll]; omega
  · simp only [PyData.weightAll]; omega
  · intro t ht
    simp only [PyData.shownAll, List.mem_cons] at ht
    rcases ht with rfl | ht
    · exact h7
    · exact g7 t ht
theorem Sm.mono {n m w v : Nat} {d : D} {p : PyData} (h : Sm n w d p) (hn : n ≤ m) (hw : w ≤ v) : Sm m v d p := ⟨h.py, h.lay, Nat.le_trans h.dep hn, h.sho, h.sh, Nat.le_trans h.wei hw, h.txt⟩
theorem SmL.mono {n m w v : Nat} {d : List D} {p : List PyData} (h : SmL n w d p) (hn : n ≤ m) (hw : w ≤ v) : SmL m v d p := ⟨h.py, h.lay, Nat.le_trans h.dep hn, h.sho, h.sh, Nat.le_trans h.wei hw, h.txt⟩
theorem smL_all {n w : Nat} : ∀ {ds : List D}, (∀ d ∈ ds, ∃ p, Sm n w d p) → ∃ ps, SmL n ((w + 1) * ds.length) ds ps
  | [], _ => ⟨[], smL_nil.mono (Nat.zero_le _) (Nat.zero_le _)⟩
  | d :: ds, h => by
    obtain ⟨p, hp⟩ := h d (by simp)
    obtain ⟨ps, hps⟩ := smL_all (ds := ds) fun e he => h e (by simp [he])
    refine ⟨p :: ps, (smL_cons hp hps).mono (by omega) ?_⟩
    simp only [List.length_cons, Nat.mul_succ]; omega
theorem sm_tup {n w : Nat} {ds : List D} {ps : List PyData} (h : SmL n w ds ps) : Sm (n + 1) w (.tup ds) (.tuple ps) := by
  obtain ⟨g1, g2, g3, g4, g5, g6, g7⟩ := h
  refine ⟨by simp only [D.toPy, g1, Option.map_some], by simp only [PyData.canLay0, g2], ?_, by simp only [PyData.showable, g4], by simp only [PyData.intsShort, g5], by simpa only [PyData.weight] using g6, ?_⟩
  · simp only [PyData.depth]; omega
  · simp only [PyData.shown]; exact ok_tuple g7
theorem sm_lst {n w : Nat} {ds : List D} {ps : List PyData} (h : SmL n w ds ps) : Sm (n + 1) w (.lst ds) (.list ps) := by
  obtain ⟨g1, g2, g3, g4, g5, g6, g7⟩ := h
  refine ⟨by simp only [D.toPy, g1, Option.map_some], by simp only [PyData.canLay0, g2], ?_, by simp only [PyData.showable, g4], by simp only [PyData.intsShort, g5], by simpa only [PyData.weight] using g6, ?_⟩
  · simp only [PyData.depth]; omega
  · simp only [PyData.shown]; exact ok_list g7
/-- small data, its written form left open -/
def Sh (n w : Nat) (d : D) : Prop := ∃ p, Sm n w d p
def ShL (n w : Nat) (ds : List D) : Prop := ∃ ps, SmL n w ds ps
theorem Sh.pl {n w : Nat} {d : D} (h : Sh n w d) : Pl n d := by
  obtain ⟨p, h⟩ := h
  exact ⟨p, h.py, h.lay, h.dep⟩
theorem Sh.mono {n m w v : Nat} {d : D} (h : Sh n w d) (hn : n ≤ m) (hw : w ≤ v) : Sh m v d := by
  obtain ⟨p, h⟩ := h
  exact ⟨p, h.mono hn hw⟩
theorem sh_int {i : Int} {w : Nat} (h : bits i ≤ w) (hw : w ≤ 1920) : Sh 0 w (.int i) := ⟨_, sm_int h hw⟩
theorem sh_bl (b : Bool) : Sh 0 0 (.bl b) := ⟨_, sm_bl b⟩
theorem sh_non : Sh 0 0 .non := ⟨_, sm_non⟩
theorem sh_str {s : Str} (h : PyData.strOk s = true) (h2 : PyData.strOk (PyData.shown (.str s)) = true) {w : Nat} (hw : s.length ≤ w) : Sh 0 w (.str s) := ⟨_, sm_str h h2 hw⟩
theorem shL_nil : ShL 0 0 [] := ⟨_, smL_nil⟩
theorem shL_cons {n m w v : Nat} {d : D} {ds : List D} (h : Sh n w d) (hs : ShL m v ds) : ShL (max n m) (w + 1 + v) (d :: ds) := by
  obtain ⟨p, h⟩ := h
  obtain ⟨ps, hs⟩ := hs
  exact ⟨_, smL_cons h hs⟩
theorem shL_all {n w : Nat} {ds : List D} (h : ∀ d ∈ ds, Sh n w d) : ShL n ((w + 1) * ds.length) ds := smL_all h
theorem sh_tup {n w : Nat} {ds : List D} (h : ShL n w ds) : Sh (n + 1) w (.tup ds) := by
  obtain ⟨ps, h⟩ := h
  exact ⟨_, sm_tup h⟩
theorem sh_lst {n w : Nat} {ds : List D} (h : ShL n w ds) : Sh (n + 1) w (.lst ds) := by
  obtain ⟨ps, h⟩ := h
  exact ⟨_, sm_lst h⟩
theorem shL_i {xs : List Int} {w : Nat} (h : ∀ x ∈ xs, bits x ≤ w) (hw : w ≤ 1920) : ShL 0 ((w + 1) * xs.length) (iD xs) := by
  have := shL_all (n := 0) (w := w) (ds := iD xs) fun d hd => by
    obtain ⟨i, hi, rfl⟩ := List.mem_map.1 hd
    exact sh_int (h i hi) hw
  rwa [iD_len] at this
/-- the text of small data -/
def txt (d : D) : Str := match d.toPy with
  | some p => p.shown | none => Str.empty
theorem shown_sh {n w : Nat} {d : D} (h : Sh n w d) (hn : n ≤ 60) (hw : w ≤ 8000) : shown d = some (txt d) := by
  obtain ⟨p, h⟩ := h
  have h1 := PyData.shown_le 1921 (by decide) p (PyData.leavesShort_of_canLay0 1921 p h.lay h.sh)
  have hs : SeqAt.shaped p = true := by unfold SeqAt.shaped; rw [h.lay]; have := h.dep; simp; omega
  have h2 : okLen p.shown.length = true := by
    apply okl
    have := h.wei
    have : 1923 * p.weight ≤ 1923 * 8000 := Nat.mul_le_mul_left _ (by omega)
    omega
  unfold shown txt
  simp only [h.py, h.sho, hs, h2, Bool.and_self, if_true]
theorem txt_ok {n w : Nat} {d : D} (h : Sh n w d) : PyData.strOk (txt d) = true := by
  obtain ⟨p, h⟩ := h
  unfold txt; rw [h.py]; exact h.txt
theorem eqD_txt {n w m v : Nat} {d e : D} (h : Sh n w d) (h' : Sh m v e) : eqD (.str (txt d)) (.str (txt e)) = some (decide (txt d = txt e)) := eqD_s (txt_ok h) (txt_ok h')
theorem sh_s (s : String) (h2 : PyData.strOk (PyData.shown (.str (Str.ofString s))) = true) {w : Nat} (hw : (Str.ofString s).length ≤ w) : Sh 0 w (.str (Str.ofString s)) := sh_str (ok_of s) h2 hw
end Dp
namespace Lw
open PySem PySem.Spec PyProof.Rows L2 Dp
def top (i : Nat) : Stmt := PySem.Challenge.pw_sayingsofsums_k01_sums_products_and_rest.main.body.getD i (.Pass ⟨0, 0, 0, 0⟩)
abbrev t_0 : Stmt := (top 7)
abbrev t_1 : Stmt := (top 8)
abbrev t_2 : Stmt := (top 9)
abbrev t_3 : Stmt := (top 10)
abbrev t_4 : Stmt := (top 12)
abbrev t_5 : Stmt := (top 13)
abbrev t_6 : Stmt := (inClass (top 18) 0)
abbrev t_7 : Stmt := (inClass (top 18) 1)
abbrev t_8 : Stmt := (inClass (top 18) 2)
abbrev t_9 : Stmt := (inClass (top 18) 3)
abbrev t_10 : Stmt := (inClass (top 18) 4)
abbrev t_11 : Stmt := (inClass (top 18) 5)
abbrev t_12 : Stmt := (inClass (top 18) 6)
abbrev t_13 : Stmt := (inClass (top 19) 0)
abbrev t_14 : Stmt := (inClass (top 19) 1)
abbrev t_15 : Stmt := (inClass (top 19) 2)
abbrev t_16 : Stmt := (inClass (top 19) 3)
abbrev t_17 : Stmt := (inClass (top 19) 4)
abbrev t_18 : Stmt := (inClass (top 19) 5)
abbrev t_19 : Stmt := (inClass (top 19) 6)
abbrev t_20 : Stmt := (inClass (top 19) 7)
abbrev t_21 : Stmt := (inClass (top 19) 8)
abbrev t_22 : Stmt := (top 20)
abbrev t_23 : Stmt := (top 21)
abbrev t_24 : Stmt := (top 23)
abbrev t_25 : Stmt := (top 24)
abbrev t_26 : Stmt := (top 25)
abbrev t_27 : Stmt := (top 26)
abbrev t_28 : Stmt := (top 27)
abbrev t_29 : Stmt := (top 28)
abbrev t_30 : Stmt := (top 29)
abbrev t_31 : Stmt := (top 30)
abbrev t_32 : Stmt := (top 31)
abbrev t_33 : Stmt := (top 34)
abbrev t_34 : Stmt := (top 35)
abbrev t_35 : Stmt := (top 36)
abbrev t_36 : Stmt := (top 37)
abbrev t_37 : Stmt := (top 38)
abbrev t_38 : Stmt := (top 39)
abbrev t_39 : Stmt := (top 40)
abbrev t_40 : Stmt := (top 42)
abbrev t_41 : Stmt := (top 43)
abbrev t_42 : Stmt := (top 44)
abbrev t_43 : Stmt := (top 45)
abbrev t_44 : Stmt := (top 46)
abbrev t_45 : Stmt := (top 47)
abbrev t_46 : Stmt := (top 48)
abbrev t_47 : Stmt := (top 49)
abbrev t_48 : Stmt := (top 50)
abbrev t_49 : Stmt := (top 51)
abbrev t_50 : Stmt := (top 52)
abbrev t_51 : Stmt := (top 53)
abbrev t_52 : Stmt := (top 54)
abbrev t_53 : Stmt := (top 55)
abbrev t_54 : Stmt := (top 56)
abbrev t_55 : Stmt := (top 57)
/-- is_integer -/
def d_0 : Def := ⟨1, 1, [.ret (.and (.isi (.slot 0) .int) (.not (.isi (.slot 0) .bool)))]⟩
/-- is_between -/
def d_1 : Def := ⟨3, 3, [.ret (.and (.call 0 [.sh (.slot 0)]) (.chain .le .le (.slot 1) (.slot 0) (.slot 2)))]⟩
/-- need_number -/
def d_2 : Def := ⟨3, 3, [.ite (.or (.cmp .lt (.slot 0) (.slot 1)) (.and (.cmp .isNot (.slot 2) (.cst .non)) (.cmp .gt (.slot 0) (.slot 2)))) [.raise 2 (.slot 0)] []]⟩
/-- anew -/
def d_3 : Def := ⟨1, 2, [.ite (.isi (.slot 0) .tuple) [.ret (.bi .tuple [.comp [1] (.nm 1) (.seq (.slot 0)) [] (.call 3 [.sh (.slot 1)])])] [], .ite (.isi (.slot 0) .list) [.ret (.comp [1] (.nm 1) (.seq (.slot 0)) [] (.call 3 [.sh (.slot 1)]))] [], .ret (.mv 0)]⟩
/-- is_multiple -/
def d_4 : Def := ⟨3, 3, [.ite (.cmp .eq (.slot 1) (.fld (.slot 0) 1)) [.ret (.cmp .eq (.slot 2) (.fld (.slot 0) 1))] [], .ret (.cmp .eq (.idx (.meth 5 (.sh (.slot 0)) [.sh (.slot 2), .sh (.slot 1)]) (.cst (.int 1))) (.fld (.slot 0) 1))]⟩
/-- raised -/
def d_5 : Def := ⟨3, 5, [.set 3 (.fld (.slot 0) 2), .for_ (.nm 4) (.bi .rng [.slot 2]) [.set 3 (.meth 4 (.sh (.slot 0)) [.sh (.slot 3), .sh (.slot 1)])], .ret (.mv 3)]⟩
/-- Whole.__init__ -/
def d_6 : Def := ⟨1, 1, [.setFld 0 1 (.cst (.int 0)), .setFld 0 2 (.cst (.int 1))]⟩
/-- Whole.has -/
def d_7 : Def := ⟨2, 2, [.ret (.call 0 [.sh (.slot 1)])]⟩
/-- Whole.of_integer -/
def d_8 : Def := ⟨2, 2, [.ret (.mv 1)]⟩
/-- Whole.plus -/
def d_9 : Def := ⟨3, 3, [.ret (.bin .add (.slot 1) (.slot 2))]⟩
/-- Whole.less -/
def d_10 : Def := ⟨3, 3, [.ret (.bin .sub (.slot 1) (.slot 2))]⟩
/-- Whole.times -/
def d_11 : Def := ⟨3, 3, [.ret (.bin .mul (.slot 1) (.slot 2))]⟩
/-- Whole.parted_by -/
def d_12 : Def := ⟨3, 4, [.set 3 (.bin .mod (.slot 1) (.bi .abs [.slot 2])), .ret (.tup [.bin .fdiv (.bin .sub (.slot 1) (.slot 3)) (.slot 2), .slot 3])]⟩
/-- Rests.__init__ -/
def d_13 : Def := ⟨2, 2, [.setFld 0 3 (.slot 1), .setFld 0 1 (.tup []), .setFld 0 2 (.tup [.cst (.int 1)])]⟩
/-- Rests.has -/
def d_14 : Def := ⟨2, 3, [.ite (.or (.not (.isi (.slot 1) .tuple)) (.not (.bi .all_ [.comp [2] (.nm 2) (.seq (.slot 1)) [] (.call 1 [.sh (.slot 2), .sh (.cst (.int 0)), .sh (.bin .sub (.fld (.slot 0) 3) (.cst (.int 1)))])]))) [.ret (.cst (.bl false))] [], .ret (.or (.cmp .eq (.bi .len [.slot 1]) (.cst (.int 0))) (.cmp .ne (.idx (.slot 1) (.neg (.cst (.int 1)))) (.cst (.int 0))))]⟩
/-- Rests.trimmed -/
def d_15 : Def := ⟨2, 4, [.set 2 (.comp [3] (.nm 3) (.seq (.slot 1)) [] (.bin .mod (.slot 3) (.fld (.slot 0) 3))), .whl (.and (.cmp .gt (.bi .len [.slot 2]) (.cst (.int 0))) (.cmp .eq (.idx (.slot 2) (.neg (.cst (.int 1)))) (.cst (.int 0)))) [.pop 2], .ret (.bi .tuple [.slot 2])]⟩
/-- Rests.of_integer -/
def d_16 : Def := ⟨2, 2, [.ret (.meth 6 (.sh (.slot 0)) [.sh (.lst [.slot 1])])]⟩
/-- Rests.plus -/
def d_17 : Def := ⟨3, 8, [.set 3 (.bi .max2 [.bi .len [.slot 1], .bi .len [.slot 2]]), .set 4 (.bin .add (.bi .list [.slot 1]) (.bin .mul (.lst [.cst (.int 0)]) (.bin .sub (.slot 3) (.bi .len [.slot 1])))), .set 5 (.bin .add (.bi .list [.slot 2]) (.bin .mul (.lst [.cst (.int 0)]) (.bin .sub (.slot 3) (.bi .len [.slot 2])))), .ret (.meth 6 (.sh (.slot 0)) [.sh (.comp [6, 7] (.tp [.nm 6, .nm 7]) (.bi .zip [.slot 4, .slot 5]) [] (.bin .add (.slot 6) (.slot 7)))])]⟩
/-- Rests.less -/
def d_18 : Def := ⟨3, 4, [.ret (.meth 2 (.sh (.slot 0)) [.sh (.slot 1), .sh (.bi .tuple [.comp [3] (.nm 3) (.seq (.slot 2)) [] (.neg (.slot 3))])])]⟩
/-- Rests.times -/
def d_19 : Def := ⟨3, 8, [.set 3 (.bin .mul (.lst [.cst (.int 0)]) (.bin .add (.bi .len [.slot 1]) (.bi .len [.slot 2]))), .for_ (.tp [.nm 4, .nm 5]) (.bi .enum [.slot 1]) [.for_ (.tp [.nm 6, .nm 7]) (.bi .enum [.slot 2]) [.augIx .add 3 (.bin .add (.slot 4) (.slot 6)) (.bin .mul (.slot 5) (.slot 7))]], .ret (.meth 6 (.sh (.slot 0)) [.sh (.slot 3)])]⟩
/-- Rests.back -/
def d_20 : Def := ⟨2, 3, [.ret (.idx (.comp [2] (.nm 2) (.bi .rng [.cst (.int 1), .fld (.slot 0) 3]) [.cmp .eq (.bin .mod (.bin .mul (.slot 2) (.slot 1)) (.fld (.slot 0) 3)) (.cst (.int 1))] (.slot 2)) (.cst (.int 0)))]⟩
/-- Rests.parted_by -/
def d_21 : Def := ⟨3, 9, [.set 3 (.bi .list [.slot 1]), .set 4 (.bin .mul (.lst [.cst (.int 0)]) (.bi .max2 [.cst (.int 0), .bin .add (.bin .sub (.bi .len [.slot 1]) (.bi .len [.slot 2])) (.cst (.int 1))])), .set 5 (.meth 7 (.sh (.slot 0)) [.sh (.idx (.slot 2) (.neg (.cst (.int 1))))]), .for_ (.nm 6) (.bi .rng [.bin .sub (.bi .len [.slot 1]) (.bi .len [.slot 2]), .neg (.cst (.int 1)), .neg (.cst (.int 1))]) [.setIx 4 (.slot 6) (.bin .mod (.bin .mul (.idx (.slot 3) (.bin .sub (.bin .add (.slot 6) (.bi .len [.slot 2])) (.cst (.int 1)))) (.slot 5)) (.fld (.slot 0) 3)), .for_ (.tp [.nm 7, .nm 8]) (.bi .enum [.slot 2]) [.augIx .sub 3 (.bin .add (.slot 6) (.slot 7)) (.bin .mul (.idx (.slot 4) (.slot 6)) (.slot 8))]], .ret (.tup [.meth 6 (.sh (.slot 0)) [.sh (.slot 4)], .meth 6 (.sh (.slot 0)) [.sh (.slot 3)]])]⟩
/-- is_ring_of -/
def d_22 : Def := ⟨1, 1, [.ite (.or (.not (.isi (.slot 0) .tuple)) (.or (.cmp .eq (.bi .len [.slot 0]) (.cst (.int 0))) (.not (.isi (.idx (.slot 0) (.cst (.int 0))) .str)))) [.ret (.cst (.bl false))] [], .ite (.cmp .eq (.idx (.slot 0) (.cst (.int 0))) (.cst (.str "by"))) [.ret (.and (.cmp .eq (.bi .len [.slot 0]) (.cst (.int 2))) (.and (.call 0 [.sh (.idx (.slot 0) (.cst (.int 1)))]) (.cmp .in_ (.idx (.slot 0) (.cst (.int 1))) (.cst (.tup [(.int 2), (.int 3), (.int 5)])))))] [], .ret (.cmp .eq (.slot 0) (.cst (.tup [(.str "whole")])))]⟩
/-- reckoner -/
def d_23 : Def := ⟨1, 1, [.ret (.ite (.cmp .eq (.idx (.slot 0) (.cst (.int 0))) (.idx (.cst (.tup [(.str "whole")])) (.cst (.int 0)))) (.new 4 []) (.new 5 [.sh (.idx (.slot 0) (.cst (.int 1)))]))]⟩
/-- is_ring -/
def d_24 : Def := ⟨1, 1, [.ret (.call 22 [.sh (.slot 0)])]⟩
/-- need_ring -/
def d_25 : Def := ⟨1, 1, [.ite (.not (.call 22 [.sh (.slot 0)])) [.raise 1 (.call 3 [.sh (.slot 0)])] []]⟩
/-- reckoner_of -/
def d_26 : Def := ⟨1, 1, [.expr (.call 25 [.sh (.slot 0)]), .ret (.call 23 [.sh (.slot 0)])]⟩
/-- need_element -/
def d_27 : Def := ⟨2, 2, [.ite (.not (.meth 0 (.sh (.slot 0)) [.sh (.slot 1)])) [.raise 3 (.call 3 [.sh (.slot 1)])] []]⟩
/-- need_two -/
def d_28 : Def := ⟨3, 3, [.expr (.call 27 [.sh (.slot 0), .sh (.slot 1)]), .expr (.call 27 [.sh (.slot 0), .sh (.slot 2)])]⟩
/-- is_element -/
def d_29 : Def := ⟨2, 2, [.ret (.meth 0 (.sh (.call 26 [.sh (.slot 0)])) [.sh (.slot 1)])]⟩
/-- zero -/
def d_30 : Def := ⟨1, 1, [.ret (.fld (.call 26 [.sh (.slot 0)]) 1)]⟩
/-- unit -/
def d_31 : Def := ⟨1, 1, [.ret (.fld (.call 26 [.sh (.slot 0)]) 2)]⟩
/-- element_of -/
def d_32 : Def := ⟨2, 2, [.ret (.meth 1 (.sh (.call 26 [.sh (.slot 0)])) [.sh (.slot 1)])]⟩
/-- need_some -/
def d_33 : Def := ⟨2, 2, [.expr (.call 27 [.sh (.slot 0), .sh (.slot 1)]), .ite (.cmp .eq (.slot 1) (.fld (.slot 0) 1)) [.raise 3 (.slot 1)] []]⟩
/-- plus -/
def d_34 : Def := ⟨3, 4, [.set 3 (.call 26 [.sh (.slot 0)]), .expr (.call 28 [.sh (.slot 3), .sh (.slot 1), .sh (.slot 2)]), .ret (.meth 2 (.sh (.slot 3)) [.sh (.slot 1), .sh (.slot 2)])]⟩
/-- less -/
def d_35 : Def := ⟨3, 4, [.set 3 (.call 26 [.sh (.slot 0)]), .expr (.call 28 [.sh (.slot 3), .sh (.slot 1), .sh (.slot 2)]), .ret (.meth 3 (.sh (.slot 3)) [.sh (.slot 1), .sh (.slot 2)])]⟩
/-- times -/
def d_36 : Def := ⟨3, 4, [.set 3 (.call 26 [.sh (.slot 0)]), .expr (.call 28 [.sh (.slot 3), .sh (.slot 1), .sh (.slot 2)]), .ret (.meth 4 (.sh (.slot 3)) [.sh (.slot 1), .sh (.slot 2)])]⟩
/-- power -/
def d_37 : Def := ⟨3, 4, [.set 3 (.call 26 [.sh (.slot 0)]), .expr (.call 27 [.sh (.slot 3), .sh (.slot 1)]), .expr (.call 2 [.sh (.slot 2), .sh (.cst (.int 0)), .sh (.cst (.int 40))]), .ret (.call 5 [.sh (.slot 3), .sh (.slot 1), .sh (.slot 2)])]⟩
/-- divided -/
def d_38 : Def := ⟨3, 4, [.set 3 (.call 26 [.sh (.slot 0)]), .expr (.call 27 [.sh (.slot 3), .sh (.slot 1)]), .expr (.call 33 [.sh (.slot 3), .sh (.slot 2)]), .ret (.meth 5 (.sh (.slot 3)) [.sh (.slot 1), .sh (.slot 2)])]⟩
/-- divides -/
def d_39 : Def := ⟨3, 4, [.set 3 (.call 26 [.sh (.slot 0)]), .expr (.call 28 [.sh (.slot 3), .sh (.slot 1), .sh (.slot 2)]), .ret (.call 4 [.sh (.slot 3), .sh (.slot 1), .sh (.slot 2)])]⟩
/-- _law_spring -/
def d_40 : Def := ⟨2, 6, [.set 2 (.ite (.cmp .lt (.slot 1) (.bi .len [.slot 0])) (.bi .int [.idx (.slot 0) (.slot 1)]) (.bin .add (.cst (.int 37)) (.bin .mul (.cst (.int 31)) (.slot 1)))), .set 3 (.bin .add (.cst (.int 29)) (.bin .mul (.cst (.int 11)) (.bi .len [.slot 0]))), .for_ (.nm 4) (.seq (.slot 0)) [.set 3 (.bin .mod (.bi .int [.bin .add (.bin .mul (.slot 3) (.cst (.int 50021))) (.bin .mod (.bi .int [.slot 4]) (.bin .add (.bin .pow (.cst (.int 10)) (.cst (.int 18))) (.cst (.int 9))))]) (.bin .add (.bin .pow (.cst (.int 10)) (.cst (.int 24))) (.cst (.int 7))))], .set 5 (.bin .mod (.bi .int [.bin .add (.bin .add (.bin .add (.bin .mul (.bi .abs [.slot 2]) (.cst (.int 14009))) (.bin .mul (.slot 3) (.cst (.int 89)))) (.bin .mul (.cst (.int 3)) (.bi .int [.cmp .lt (.slot 2) (.cst (.int 0))]))) (.bin .mul (.cst (.int 67)) (.slot 1))]) (.bin .add (.bin .pow (.cst (.int 10)) (.cst (.int 27))) (.cst (.int 103)))), .ret (.lst [.bi .max2 [.cst (.int 0), .bin .sub (.bi .abs [.slot 2]) (.bin .pow (.cst (.int 10)) (.cst (.int 18)))], .slot 5, .cst (.int 0)])]⟩
/-- _law_take -/
def d_41 : Def := ⟨2, 5, [.ite (.cmp .gt (.idx (.slot 0) (.cst (.int 0))) (.cst (.int 0))) [.set 2 (.bin .mod (.bi .int [.idx (.slot 0) (.cst (.int 0))]) (.slot 1)), .setIx 0 (.cst (.int 0)) (.bin .fdiv (.idx (.slot 0) (.cst (.int 0))) (.slot 1)), .ret (.mv 2)] [], .setIx 0 (.cst (.int 2)) (.bin .add (.idx (.slot 0) (.cst (.int 2))) (.cst (.int 1))), .set 3 (.idx (.slot 0) (.cst (.int 2))), .set 4 (.bin .mod (.bi .int [.bin .add (.bin .add (.bin .mul (.bin .mul (.bin .add (.idx (.slot 0) (.cst (.int 1))) (.cst (.int 17))) (.bin .add (.slot 3) (.cst (.int 5)))) (.cst (.int 1000000007))) (.bin .mul (.bin .mul (.bin .mul (.slot 3) (.slot 3)) (.slot 3)) (.cst (.int 777767777)))) (.cst (.int 31))]) (.bin .add (.bin .pow (.cst (.int 10)) (.cst (.int 28))) (.cst (.int 331)))), .set 4 (.bin .mod (.bi .int [.bin .add (.bin .add (.bin .mul (.slot 4) (.slot 4)) (.bin .mul (.idx (.slot 0) (.cst (.int 1))) (.cst (.int 13)))) (.slot 3)]) (.bin .add (.bin .pow (.cst (.int 10)) (.cst (.int 30))) (.cst (.int 57)))), .set 4 (.bin .mod (.bi .int [.bin .add (.bin .mul (.bin .mul (.slot 4) (.slot 4)) (.cst (.int 5))) (.bin .mul (.slot 4) (.cst (.int 17)))]) (.bin .add (.bin .pow (.cst (.int 10)) (.cst (.int 32))) (.cst (.int 49)))), .ret (.bin .mod (.bi .int [.bin .fdiv (.slot 4) (.cst (.int 30011))]) (.slot 1))]⟩
/-- _law_ring -/
def d_42 : Def := ⟨1, 1, [.ret (.idx (.lst [.tup [.cst (.str "whole")], .tup [.cst (.str "by"), .cst (.int 2)], .tup [.cst (.str "by"), .cst (.int 3)], .tup [.cst (.str "by"), .cst (.int 5)]]) (.call 41 [.io 0, .sh (.cst (.int 4))]))]⟩
/-- _law_cut -/
def d_43 : Def := ⟨2, 5, [.set 2 (.comp [4] (.nm 4) (.seq (.slot 1)) [] (.bin .mod (.bi .int [.slot 4]) (.slot 0))), .for_ (.nm 3) (.bi .rng [.bi .len [.slot 1]]) [.ite (.and (.cmp .gt (.bi .len [.slot 2]) (.cst (.int 0))) (.cmp .eq (.idx (.slot 2) (.neg (.cst (.int 1)))) (.cst (.int 0)))) [.set 2 (.slc (.slot 2) none (some (.neg (.cst (.int 1)))))] []], .ret (.bi .tuple [.slot 2])]⟩
/-- _law_plus -/
def d_44 : Def := ⟨3, 7, [.ite (.cmp .eq (.idx (.slot 0) (.cst (.int 0))) (.cst (.str "whole"))) [.ret (.bin .add (.slot 1) (.slot 2))] [], .set 3 (.bi .max2 [.bi .len [.slot 1], .bi .len [.slot 2]]), .unp (.tp [.nm 4, .nm 5]) (.tup [.bin .add (.bi .list [.slot 1]) (.bin .mul (.lst [.cst (.int 0)]) (.bin .sub (.slot 3) (.bi .len [.slot 1]))), .bin .add (.bi .list [.slot 2]) (.bin .mul (.lst [.cst (.int 0)]) (.bin .sub (.slot 3) (.bi .len [.slot 2])))]), .ret (.call 43 [.sh (.idx (.slot 0) (.cst (.int 1))), .sh (.comp [6] (.nm 6) (.bi .rng [.slot 3]) [] (.bin .add (.idx (.slot 4) (.slot 6)) (.idx (.slot 5) (.slot 6))))])]⟩
/-- _law_times -/
def d_45 : Def := ⟨3, 6, [.ite (.cmp .eq (.idx (.slot 0) (.cst (.int 0))) (.cst (.str "whole"))) [.ret (.bin .mul (.slot 1) (.slot 2))] [], .set 3 (.bin .mul (.lst [.cst (.int 0)]) (.bin .add (.bi .len [.slot 1]) (.bi .len [.slot 2]))), .for_ (.nm 4) (.bi .rng [.bi .len [.slot 1]]) [.for_ (.nm 5) (.bi .rng [.bi .len [.slot 2]]) [.setIx 3 (.bin .add (.slot 4) (.slot 5)) (.bin .add (.idx (.slot 3) (.bin .add (.slot 4) (.slot 5))) (.bin .mul (.idx (.slot 1) (.slot 4)) (.idx (.slot 2) (.slot 5))))]], .ret (.call 43 [.sh (.idx (.slot 0) (.cst (.int 1))), .sh (.slot 3)])]⟩
/-- _law_neg -/
def d_46 : Def := ⟨2, 3, [.ret (.ite (.cmp .eq (.idx (.slot 0) (.cst (.int 0))) (.cst (.str "whole"))) (.neg (.slot 1)) (.call 43 [.sh (.idx (.slot 0) (.cst (.int 1))), .sh (.comp [2] (.nm 2) (.seq (.slot 1)) [] (.neg (.slot 2)))]))]⟩
/-- _law_zero -/
def d_47 : Def := ⟨1, 1, [.ret (.ite (.cmp .eq (.idx (.slot 0) (.cst (.int 0))) (.cst (.str "whole"))) (.cst (.int 0)) (.tup []))]⟩
/-- _law_unit -/
def d_48 : Def := ⟨1, 1, [.ret (.ite (.cmp .eq (.idx (.slot 0) (.cst (.int 0))) (.cst (.str "whole"))) (.cst (.int 1)) (.tup [.cst (.int 1)]))]⟩
/-- _law_element -/
def d_49 : Def := ⟨4, 6, [.ite (.cmp .eq (.idx (.slot 1) (.cst (.int 0))) (.cst (.str "whole"))) [.ret (.bin .sub (.call 41 [.io 0, .sh (.bin .add (.bin .mul (.cst (.int 2)) (.slot 2)) (.cst (.int 1)))]) (.slot 2))] [], .set 4 (.lst []), .for_ (.nm 5) (.bi .rng [.call 41 [.io 0, .sh (.bin .add (.slot 3) (.cst (.int 2)))]]) [.app 4 (.call 41 [.io 0, .sh (.idx (.slot 1) (.cst (.int 1)))])], .ret (.call 43 [.sh (.idx (.slot 1) (.cst (.int 1))), .sh (.slot 4)])]⟩
/-- _law_is_element -/
def d_50 : Def := ⟨2, 3, [.ite (.cmp .eq (.idx (.slot 0) (.cst (.int 0))) (.cst (.str "whole"))) [.ret (.and (.isi (.slot 1) .int) (.not (.isi (.slot 1) .bool)))] [], .ite (.or (.not (.isi (.slot 1) .tuple)) (.not (.bi .all_ [.comp [2] (.nm 2) (.seq (.slot 1)) [] (.and (.isi (.slot 2) .int) (.and (.not (.isi (.slot 2) .bool)) (.chain .le .lt (.cst (.int 0)) (.slot 2) (.idx (.slot 0) (.cst (.int 1))))))]))) [.ret (.cst (.bl false))] [], .ret (.or (.cmp .eq (.bi .len [.slot 1]) (.cst (.int 0))) (.cmp .ne (.idx (.slot 1) (.neg (.cst (.int 1)))) (.cst (.int 0))))]⟩
/-- _law_is_rest -/
def d_51 : Def := ⟨3, 3, [.ite (.not (.call 50 [.sh (.slot 0), .sh (.slot 1)])) [.ret (.cst (.bl false))] [], .ret (.ite (.cmp .eq (.idx (.slot 0) (.cst (.int 0))) (.cst (.str "whole"))) (.chain .le .lt (.cst (.int 0)) (.slot 1) (.bi .abs [.slot 2])) (.cmp .lt (.bi .len [.slot 1]) (.bi .len [.slot 2])))]⟩
/-- _law_caught -/
def d_52 : Def := ⟨4, 8, [.set 4 (.cst .non), .try_ [.ite (.cmp .eq (.slot 0) (.cst (.int 0))) [.expr (.call 34 [.sh (.slot 1), .sh (.slot 2), .sh (.slot 3)])] [.ite (.cmp .eq (.slot 0) (.cst (.int 1))) [.expr (.callK 35 [2, 1, 0] [] [.sh (.slot 3), .sh (.slot 2), .sh (.slot 1)])] [.ite (.cmp .eq (.slot 0) (.cst (.int 2))) [.expr (.call 36 [.sh (.slot 1), .sh (.slot 2), .sh (.slot 3)])] [.ite (.cmp .eq (.slot 0) (.cst (.int 3))) [.expr (.call 38 [.sh (.slot 1), .sh (.slot 2), .sh (.slot 3)])] [.ite (.cmp .eq (.slot 0) (.cst (.int 4))) [.expr (.callK 39 [0, 2, 1] [] [.sh (.slot 1), .sh (.slot 3), .sh (.slot 2)])] [.ite (.cmp .eq (.slot 0) (.cst (.int 5))) [.expr (.call 37 [.sh (.slot 1), .sh (.slot 2), .sh (.slot 3)])] [.ite (.cmp .eq (.slot 0) (.cst (.int 6))) [.expr (.call 29 [.sh (.slot 1), .sh (.slot 2)])] [.ite (.cmp .eq (.slot 0) (.cst (.int 7))) [.expr (.call 30 [.sh (.slot 1)])] [.ite (.cmp .eq (.slot 0) (.cst (.int 8))) [.expr (.callK 31 [0] [] [.sh (.slot 1)])] [.expr (.call 32 [.sh (.slot 1), .sh (.cst (.int 1))])]]]]]]]]]] 0 5 [.set 4 (.slot 5)], .ite (.cmp .is (.slot 4) (.cst .non)) [.ret (.cst .non)] [], .set 6 (.lst [.isi (.slot 4) (.cls 1), .isi (.slot 4) (.cls 3), .isi (.slot 4) (.cls 2)]), .ret (.tup [.comp [7] (.nm 7) (.bi .rng [.cst (.int 3)]) [.idx (.slot 6) (.slot 7)] (.slot 7), .bi .repr [.fld (.slot 4) 0]])]⟩
/-- _law_refused -/
def d_53 : Def := ⟨3, 8, [.set 3 (.idx (.lst [.cst .non, .tup [.cst (.str "by"), .cst (.int 7)], .lst [.cst (.str "whole")], .tup [.cst (.str "by")], .tup [.cst (.str "by"), .cst (.bl true)], .cst (.str "whole"), .tup [.cst (.str "by"), .cst (.int 4)], .tup [.cst (.str "whole"), .cst (.int 2)]]) (.call 41 [.io 0, .sh (.cst (.int 8))])), .ite (.or (.cmp .ne (.comp [7] (.nm 7) (.bi .rng [.cst (.int 10)]) [] (.call 52 [.sh (.slot 7), .sh (.slot 3), .sh (.cst .non), .sh (.neg (.cst (.int 1)))])) (.bin .mul (.lst [.tup [.lst [.cst (.int 0)], .bi .repr [.slot 3]]]) (.cst (.int 10)))) (.or (.cmp .isNot (.call 24 [.sh (.slot 3)]) (.cst (.bl false))) (.cmp .isNot (.callK 24 [0] [] [.sh (.slot 1)]) (.cst (.bl true))))) [.ret (.cst (.bl false))] [], .set 4 (.ite (.cmp .eq (.idx (.slot 1) (.cst (.int 0))) (.cst (.str "whole"))) (.lst [.cst .non, .cst (.bl true), .cst (.str "1"), .tup [.cst (.int 1), .cst (.int 0)], .lst [.cst (.int 1)], .tup [.cst (.bl true)], .tup [.cst (.int 0)], .tup [.tup [.cst (.int 1)]]]) (.lst [.cst .non, .cst (.int 3), .tup [.cst (.int 1), .cst (.int 0)], .tup [.idx (.slot 1) (.cst (.int 1))], .tup [.neg (.cst (.int 1))], .lst [.cst (.int 1)], .tup [.cst (.bl true)], .tup [.cst (.int 0)]])), .set 5 (.idx (.slot 4) (.call 41 [.io 0, .sh (.cst (.int 8))])), .ite (.cmp .ne (.comp [7] (.nm 7) (.bi .rng [.cst (.int 6)]) [] (.call 52 [.sh (.slot 7), .sh (.slot 1), .sh (.slot 5), .sh (.neg (.cst (.int 1)))])) (.bin .mul (.lst [.tup [.lst [.cst (.int 1)], .bi .repr [.slot 5]]]) (.cst (.int 6)))) [.ret (.cst (.bl false))] [], .ite (.or (.cmp .ne (.comp [7] (.nm 7) (.bi .rng [.cst (.int 5)]) [] (.call 52 [.sh (.slot 7), .sh (.slot 1), .sh (.slot 2), .sh (.slot 5)])) (.bin .mul (.lst [.tup [.lst [.cst (.int 1)], .bi .repr [.slot 5]]]) (.cst (.int 5)))) (.cmp .isNot (.call 29 [.sh (.slot 1), .sh (.slot 5)]) (.cst (.bl false)))) [.ret (.cst (.bl false))] [], .set 6 (.lst [.call 52 [.sh (.cst (.int 3)), .sh (.slot 1), .sh (.slot 2), .sh (.call 47 [.sh (.slot 1)])], .call 52 [.sh (.cst (.int 5)), .sh (.slot 1), .sh (.slot 2), .sh (.neg (.cst (.int 1)))], .call 52 [.sh (.cst (.int 5)), .sh (.slot 1), .sh (.slot 2), .sh (.cst (.int 41))]]), .ret (.and (.cmp .eq (.slot 6) (.lst [.tup [.lst [.cst (.int 1)], .bi .repr [.call 47 [.sh (.slot 1)]]], .tup [.lst [.cst (.int 2)], .cst (.str "-1")], .tup [.lst [.cst (.int 2)], .cst (.str "41")]])) (.cmp .is (.callK 29 [1, 0] [] [.sh (.slot 2), .sh (.slot 1)]) (.cst (.bl true))))]⟩
/-- _law_right -/
def d_54 : Def := ⟨1, 17, [.set 1 (.call 42 [.io 0]), .unp (.tp [.nm 2, .nm 3]) (.idx (.lst [.tup [.cst (.int 6), .cst (.int 2)], .tup [.cst (.int 1000), .cst (.int 4)], .tup [.bin .pow (.cst (.int 10)) (.cst (.int 29)), .cst (.int 9)]]) (.call 41 [.io 0, .sh (.cst (.int 3))])), .par 4 5 (.call 49 [.io 0, .sh (.slot 1), .sh (.slot 2), .sh (.slot 3)]) (.call 49 [.io 0, .sh (.slot 1), .sh (.slot 2), .sh (.slot 3)]), .ite (.cmp .ne (.bi .repr [.lst [.call 30 [.sh (.slot 1)], .call 31 [.sh (.slot 1)]]]) (.bi .repr [.lst [.call 47 [.sh (.slot 1)], .call 48 [.sh (.slot 1)]]])) [.ret (.cst (.bl false))] [], .set 6 (.bin .sub (.call 41 [.io 0, .sh (.cst (.int 41))]) (.cst (.int 20))), .ite (.or (.cmp .ne (.bi .repr [.call 32 [.sh (.slot 1), .sh (.slot 6)]]) (.bi .repr [.ite (.cmp .eq (.idx (.slot 1) (.cst (.int 0))) (.cst (.str "whole"))) (.slot 6) (.call 43 [.sh (.idx (.slot 1) (.cst (.int 1))), .sh (.lst [.slot 6])])])) (.cmp .ne (.bi .repr [.callK 32 [1, 0] [] [.sh (.cst (.int 0)), .sh (.slot 1)]]) (.bi .repr [.call 47 [.sh (.slot 1)]]))) [.ret (.cst (.bl false))] [], .set 7 (.lst [.call 34 [.sh (.slot 1), .sh (.slot 4), .sh (.slot 5)], .call 35 [.sh (.slot 1), .sh (.slot 4), .sh (.slot 5)], .call 36 [.sh (.slot 1), .sh (.slot 4), .sh (.slot 5)], .callK 34 [2, 1, 0] [] [.sh (.slot 5), .sh (.slot 4), .sh (.slot 1)]]), .set 8 (.call 44 [.sh (.slot 1), .sh (.slot 4), .sh (.slot 5)]), .ite (.cmp .ne (.bi .repr [.slot 7]) (.bi .repr [.lst [.slot 8, .call 44 [.sh (.slot 1), .sh (.slot 4), .sh (.call 46 [.sh (.slot 1), .sh (.slot 5)])], .call 45 [.sh (.slot 1), .sh (.slot 4), .sh (.slot 5)], .slot 8]])) [.ret (.cst (.bl false))] [], .par 9 10 (.call 41 [.io 0, .sh (.cst (.int 5))]) (.call 48 [.sh (.slot 1)]), .for_ (.nm 11) (.bi .rng [.slot 9]) [.set 10 (.call 45 [.sh (.slot 1), .sh (.slot 10), .sh (.slot 4)])], .ite (.cmp .ne (.bi .repr [.call 37 [.sh (.slot 1), .sh (.slot 4), .sh (.slot 9)]]) (.bi .repr [.slot 10])) [.ret (.cst (.bl false))] [], .ite (.cmp .ne (.slot 5) (.call 47 [.sh (.slot 1)])) [.unp (.tp [.nm 12, .nm 13]) (.call 38 [.sh (.slot 1), .sh (.slot 4), .sh (.slot 5)]), .ite (.or (.not (.call 50 [.sh (.slot 1), .sh (.slot 12)])) (.not (.call 51 [.sh (.slot 1), .sh (.slot 13), .sh (.slot 5)]))) [.ret (.cst (.bl false))] [], .ite (.or (.cmp .ne (.call 44 [.sh (.slot 1), .sh (.call 45 [.sh (.slot 1), .sh (.slot 12), .sh (.slot 5)]), .sh (.slot 13)]) (.slot 4)) (.cmp .ne (.callK 38 [2, 1, 0] [] [.sh (.slot 5), .sh (.slot 4), .sh (.slot 1)]) (.tup [.slot 12, .slot 13]))) [.ret (.cst (.bl false))] [], .set 14 (.call 49 [.io 0, .sh (.slot 1), .sh (.cst (.int 3)), .sh (.cst (.int 1))]), .set 14 (.ite (.call 51 [.sh (.slot 1), .sh (.slot 14), .sh (.slot 5)]) (.slot 14) (.call 47 [.sh (.slot 1)])), .set 15 (.call 44 [.sh (.slot 1), .sh (.call 45 [.sh (.slot 1), .sh (.slot 4), .sh (.slot 5)]), .sh (.slot 14)]), .ite (.cmp .ne (.call 39 [.sh (.slot 1), .sh (.slot 5), .sh (.slot 15)]) (.cmp .eq (.slot 14) (.call 47 [.sh (.slot 1)]))) [.ret (.cst (.bl false))] []] [], .set 16 (.call 47 [.sh (.slot 1)]), .ite (.cmp .ne (.lst [.call 39 [.sh (.slot 1), .sh (.slot 16), .sh (.slot 16)], .call 39 [.sh (.slot 1), .sh (.slot 4), .sh (.slot 16)], .call 39 [.sh (.slot 1), .sh (.slot 16), .sh (.slot 4)]]) (.lst [.cst (.bl true), .cst (.bl true), .cmp .eq (.slot 4) (.slot 16)])) [.ret (.cst (.bl false))] [], .ret (.call 53 [.io 0, .sh (.slot 1), .sh (.slot 4)])]⟩
/-- law -/
def d_55 : Def := ⟨1, 4, [.for_ (.nm 1) (.bi .rng [.bi .max2 [.cst (.int 1), .bi .min2 [.cst (.int 4), .bi .len [.slot 0]]]]) [.set 2 (.call 40 [.sh (.slot 0), .sh (.slot 1)]), .for_ (.nm 3) (.bi .rng [.cst (.int 3)]) [.ite (.not (.call 54 [.io 2])) [.ret (.cst (.bl false))] []]], .ret (.cst (.bl true))]⟩
def pr : Pr where
  defs := fun f => ([(0, d_0), (1, d_1), (2, d_2), (3, d_3), (4, d_4), (5, d_5), (6, d_6), (7, d_7), (8, d_8), (9, d_9), (10, d_10), (11, d_11), (12, d_12), (13, d_13), (14, d_14), (15, d_15), (16, d_16), (17, d_17), (18, d_18), (19, d_19), (20, d_20), (21, d_21), (22, d_22), (23, d_23), (24, d_24), (25, d_25), (26, d_26), (27, d_27), (28, d_28), (29, d_29), (30, d_30), (31, d_31), (32, d_32), (33, d_33), (34, d_34), (35, d_35), (36, d_36), (37, d_37), (38, d_38), (39, d_39), (40, d_40), (41, d_41), (42, d_42), (43, d_43), (44, d_44), (45, d_45), (46, d_46), (47, d_47), (48, d_48), (49, d_49), (50, d_50), (51, d_51), (52, d_52), (53, d_53), (54, d_54), (55, d_55)] : List (Nat × Def)).lookup f
  meth := fun c m => ([((4, 0), 7), ((4, 1), 8), ((4, 2), 9), ((4, 3), 10), ((4, 4), 11), ((4, 5), 12), ((5, 0), 14), ((5, 6), 15), ((5, 1), 16), ((5, 2), 17), ((5, 3), 18), ((5, 4), 19), ((5, 7), 20), ((5, 5), 21)] : List ((Nat × Nat) × Nat)).lookup (c, m)
  init := fun c => ([(4, 6), (5, 13)] : List (Nat × Nat)).lookup c
  sub := fun k c => ([((0, 0), true), ((0, 1), false), ((0, 2), false), ((0, 3), false), ((1, 0), true), ((1, 1), true), ((1, 2), false), ((1, 3), false), ((2, 0), true), ((2, 1), false), ((2, 2), true), ((2, 3), false), ((3, 0), true), ((3, 1), false), ((3, 2), false), ((3, 3), true)] : List ((Nat × Nat) × Bool)).lookup (k, c)
  fok := fun c f => ([(4, 1), (4, 2), (5, 3), (5, 1), (5, 2)] : List (Nat × Nat)).contains (c, f)
  eok := fun c => ([0, 1, 2, 3] : List Nat).contains c
def fnm : Nat → Str
  | 0 => "value"
  | 1 => "zero"
  | 2 => "one"
  | 3 => "p"
  | _ => ""
structure Tab where
  a0 : Addr
  d0 : FuncData
  a1 : Addr
  d1 : FuncData
  a2 : Addr
  d2 : FuncData
  a3 : Addr
  d3 : FuncData
  a4 : Addr
  d4 : FuncData
  a5 : Addr
  d5 : FuncData
  a6 : Addr
  d6 : FuncData
  a7 : Addr
  d7 : FuncData
  a8 : Addr
  d8 : FuncData
  a9 : Addr
  d9 : FuncData
  a10 : Addr
  d10 : FuncData
  a11 : Addr
  d11 : FuncData
  a12 : Addr
  d12 : FuncData
  a13 : Addr
  d13 : FuncData
  a14 : Addr
  d14 : FuncData
  a15 : Addr
  d15 : FuncData
  a16 : Addr
  d16 : FuncData
  a17 : Addr
  d17 : FuncData
  a18 : Addr
  d18 : FuncData
  a19 : Addr
  d19 : FuncData
  a20 : Addr
  d20 : FuncData
  a21 : Addr
  d21 : FuncData
  a22 : Addr
  d22 : FuncData
  a23 : Addr
  d23 : FuncData
  a24 : Addr
  d24 : FuncData
  a25 : Addr
  d25 : FuncData
  a26 : Addr
  d26 : FuncData
  a27 : Addr
  d27 : FuncData
  a28 : Addr
  d28 : FuncData
  a29 : Addr
  d29 : FuncData
  a30 : Addr
  d30 : FuncData
  a31 : Addr
  d31 : FuncData
  a32 : Addr
  d32 : FuncData
  a33 : Addr
  d33 : FuncData
  a34 : Addr
  d34 : FuncData
  a35 : Addr
  d35 : FuncData
  a36 : Addr
  d36 : FuncData
  a37 : Addr
  d37 : FuncData
  a38 : Addr
  d38 : FuncData
  a39 : Addr
  d39 : FuncData
  a40 : Addr
  d40 : FuncData
  a41 : Addr
  d41 : FuncData
  a42 : Addr
  d42 : FuncData
  a43 : Addr
  d43 : FuncData
  a44 : Addr
  d44 : FuncData
  a45 : Addr
  d45 : FuncData
  a46 : Addr
  d46 : FuncData
  a47 : Addr
  d47 : FuncData
  a48 : Addr
  d48 : FuncData
  a49 : Addr
  d49 : FuncData
  a50 : Addr
  d50 : FuncData
  a51 : Addr
  d51 : FuncData
  a52 : Addr
  d52 : FuncData
  a53 : Addr
  d53 : FuncData
  a54 : Addr
  d54 : FuncData
  a55 : Addr
  d55 : FuncData
  ca : Nat → Addr
theorem fnm_inj : ∀ i j, i < 4 → j < 4 → fnm i = fnm j → i = j := fun i j hi hj e => Fin.mk.inj ((by decide +kernel : ∀ i j : Fin 4, fnm i = fnm j → i = j) ⟨i, hi⟩ ⟨j, hj⟩ e)
def gx (K : PySem.W.Frag) (t : Tab) : Gx := ⟨K, t.ca, fnm, 4, fnm_inj, by decide, rfl⟩
structure Tx (P : Program) (K : PySem.W.Frag) (mg : Str → Option Value) (t : Tab) (fi : Addr) : Prop where
  z_abs : mg "abs" = none
  z_all : mg "all" = none
  z_bool : mg "bool" = none
  z_enumerate : mg "enumerate" = none
  z_int : mg "int" = none
  z_isinstance : mg "isinstance" = none
  z_len : mg "len" = none
  z_list : mg "list" = none
  z_max : mg "max" = none
  z_min : mg "min" = none
  z_range : mg "range" = none
  z_repr : mg "repr" = none
  z_str : mg "str" = none
  z_super : mg "super" = none
  z_tuple : mg "tuple" = none
  z_zip : mg "zip" = none
  F_0 : Fun K "is_integer" "is_integer" t_0 t.a0 t.d0
  kp_0 : PySem.W.keepIn K (.ref t.a0) = true
  b_0 : BindsA t.d0 ["value"]
  g_0 : mg "is_integer" = some (.ref t.a0)
  F_1 : Fun K "is_between" "is_between" t_1 t.a1 t.d1
  kp_1 : PySem.W.keepIn K (.ref t.a1) = true
  b_1 : BindsA t.d1 ["value", "low", "high"]
  g_1 : mg "is_between" = some (.ref t.a1)
  F_2 : Fun K "need_number" "need_number" t_2 t.a2 t.d2
  kp_2 : PySem.W.keepIn K (.ref t.a2) = true
  b_2 : BindsA t.d2 ["number", "low", "high"]
  g_2 : mg "need_number" = some (.ref t.a2)
  F_3 : Fun K "anew" "anew" t_3 t.a3 t.d3
  kp_3 : PySem.W.keepIn K (.ref t.a3) = true
  b_3 : BindsA t.d3 ["value"]
  g_3 : mg "anew" = some (.ref t.a3)
  F_4 : Fun K "is_multiple" "is_multiple" t_4 t.a4 t.d4
  kp_4 : PySem.W.keepIn K (.ref t.a4) = true
  b_4 : BindsA t.d4 ["by", "one", "other"]
  g_4 : mg "is_multiple" = some (.ref t.a4)
  F_5 : Fun K "raised" "raised" t_5 t.a5 t.d5
  kp_5 : PySem.W.keepIn K (.ref t.a5) = true
  b_5 : BindsA t.d5 ["by", "one", "k"]
  g_5 : mg "raised" = some (.ref t.a5)
  F_6 : Fun K "__init__" "Whole.__init__" t_6 t.a6 t.d6
  kp_6 : PySem.W.keepIn K (.ref t.a6) = true
  b_6 : BindsA t.d6 ["self"]
  F_7 : Fun K "has" "Whole.has" t_7 t.a7 t.d7
  kp_7 : PySem.W.keepIn K (.ref t.a7) = true
  b_7 : BindsA t.d7 ["self", "value"]
  F_8 : Fun K "of_integer" "Whole.of_integer" t_8 t.a8 t.d8
  kp_8 : PySem.W.keepIn K (.ref t.a8) = true
  b_8 : BindsA t.d8 ["self", "k"]
  F_9 : Fun K "plus" "Whole.plus" t_9 t.a9 t.d9
  kp_9 : PySem.W.keepIn K (.ref t.a9) = true
  b_9 : BindsA t.d9 ["self", "one", "other"]
  F_10 : Fun K "less" "Whole.less" t_10 t.a10 t.d10
  kp_10 : PySem.W.keepIn K (.ref t.a10) = true
  b_10 : BindsA t.d10 ["self", "one", "other"]
  F_11 : Fun K "times" "Whole.times" t_11 t.a11 t.d11
  kp_11 : PySem.W.keepIn K (.ref t.a11) = true
  b_11 : BindsA t.d11 ["self", "one", "other"]
  F_12 : Fun K "parted_by" "Whole.parted_by" t_12 t.a12 t.d12
  kp_12 : PySem.W.keepIn K (.ref t.a12) = true
  b_12 : BindsA t.d12 ["self", "one", "other"]
  F_13 : Fun K "__init__" "Rests.__init__" t_13 t.a13 t.d13
  kp_13 : PySem.W.keepIn K (.ref t.a13) = true
  b_13 : BindsA t.d13 ["self", "p"]
  F_14 : Fun K "has" "Rests.has" t_14 t.a14 t.d14
  kp_14 : PySem.W.keepIn K (.ref t.a14) = true
  b_14 : BindsA t.d14 ["self", "value"]
  F_15 : Fun K "trimmed" "Rests.trimmed" t_15 t.a15 t.d15
  kp_15 : PySem.W.keepIn K (.ref t.a15) = true
  b_15 : BindsA t.d15 ["self", "row"]
  F_16 : Fun K "of_integer" "Rests.of_integer" t_16 t.a16 t.d16
  kp_16 : PySem.W.keepIn K (.ref t.a16) = true
  b_16 : BindsA t.d16 ["self", "k"]
  F_17 : Fun K "plus" "Rests.plus" t_17 t.a17 t.d17
  kp_17 : PySem.W.keepIn K (.ref t.a17) = true
  b_17 : BindsA t.d17 ["self", "one", "other"]
  F_18 : Fun K "less" "Rests.less" t_18 t.a18 t.d18
  kp_18 : PySem.W.keepIn K (.ref t.a18) = true
  b_18 : BindsA t.d18 ["self", "one", "other"]
  F_19 : Fun K "times" "Rests.times" t_19 t.a19 t.d19
  kp_19 : PySem.W.keepIn K (.ref t.a19) = true
  b_19 : BindsA t.d19 ["self", "one", "other"]
  F_20 : Fun K "back" "Rests.back" t_20 t.a20 t.d20
  kp_20 : PySem.W.keepIn K (.ref t.a20) = true
  b_20 : BindsA t.d20 ["self", "rest"]
  F_21 : Fun K "parted_by" "Rests.parted_by" t_21 t.a21 t.d21
  kp_21 : PySem.W.keepIn K (.ref t.a21) = true
  b_21 : BindsA t.d21 ["self", "one", "other"]
  F_22 : Fun K "is_ring_of" "is_ring_of" t_22 t.a22 t.d22
  kp_22 : PySem.W.keepIn K (.ref t.a22) = true
  b_22 : BindsA t.d22 ["value"]
  g_22 : mg "is_ring_of" = some (.ref t.a22)
  F_23 : Fun K "reckoner" "reckoner" t_23 t.a23 t.d23
  kp_23 : PySem.W.keepIn K (.ref t.a23) = true
  b_23 : BindsA t.d23 ["ring"]
  g_23 : mg "reckoner" = some (.ref t.a23)
  F_24 : Fun K "is_ring" "is_ring" t_24 t.a24 t.d24
  kp_24 : PySem.W.keepIn K (.ref t.a24) = true
  b_24 : BindsA t.d24 ["value"]
  g_24 : mg "is_ring" = some (.ref t.a24)
  F_25 : Fun K "need_ring" "need_ring" t_25 t.a25 t.d25
  kp_25 : PySem.W.keepIn K (.ref t.a25) = true
  b_25 : BindsA t.d25 ["ring"]
  g_25 : mg "need_ring" = some (.ref t.a25)
  F_26 : Fun K "reckoner_of" "reckoner_of" t_26 t.a26 t.d26
  kp_26 : PySem.W.keepIn K (.ref t.a26) = true
  b_26 : BindsA t.d26 ["ring"]
  g_26 : mg "reckoner_of" = some (.ref t.a26)
  F_27 : Fun K "need_element" "need_element" t_27 t.a27 t.d27
  kp_27 : PySem.W.keepIn K (.ref t.a27) = true
  b_27 : BindsA t.d27 ["by", "element"]
  g_27 : mg "need_element" = some (.ref t.a27)
  F_28 : Fun K "need_two" "need_two" t_28 t.a28 t.d28
  kp_28 : PySem.W.keepIn K (.ref t.a28) = true
  b_28 : BindsA t.d28 ["by", "one", "other"]
  g_28 : mg "need_two" = some (.ref t.a28)
  F_29 : Fun K "is_element" "is_element" t_29 t.a29 t.d29
  kp_29 : PySem.W.keepIn K (.ref t.a29) = true
  b_29 : BindsA t.d29 ["ring", "value"]
  g_29 : mg "is_element" = some (.ref t.a29)
  F_30 : Fun K "zero" "zero" t_30 t.a30 t.d30
  kp_30 : PySem.W.keepIn K (.ref t.a30) = true
  b_30 : BindsA t.d30 ["ring"]
  g_30 : mg "zero" = some (.ref t.a30)
  F_31 : Fun K "unit" "unit" t_31 t.a31 t.d31
  kp_31 : PySem.W.keepIn K (.ref t.a31) = true
  b_31 : BindsA t.d31 ["ring"]
  g_31 : mg "unit" = some (.ref t.a31)
  F_32 : Fun K "element_of" "element_of" t_32 t.a32 t.d32
  kp_32 : PySem.W.keepIn K (.ref t.a32) = true
  b_32 : BindsA t.d32 ["ring", "k"]
  g_32 : mg "element_of" = some (.ref t.a32)
  F_33 : Fun K "need_some" "need_some" t_33 t.a33 t.d33
  kp_33 : PySem.W.keepIn K (.ref t.a33) = true
  b_33 : BindsA t.d33 ["by", "element"]
  g_33 : mg "need_some" = some (.ref t.a33)
  F_34 : Fun K "plus" "plus" t_34 t.a34 t.d34
  kp_34 : PySem.W.keepIn K (.ref t.a34) = true
  b_34 : BindsA t.d34 ["ring", "one", "other"]
  g_34 : mg "plus" = some (.ref t.a34)
  F_35 : Fun K "less" "less" t_35 t.a35 t.d35
  kp_35 : PySem.W.keepIn K (.ref t.a35) = true
  b_35 : BindsA t.d35 ["ring", "one", "other"]
  g_35 : mg "less" = some (.ref t.a35)
  F_36 : Fun K "times" "times" t_36 t.a36 t.d36
  kp_36 : PySem.W.keepIn K (.ref t.a36) = true
  b_36 : BindsA t.d36 ["ring", "one", "other"]
  g_36 : mg "times" = some (.ref t.a36)
  F_37 : Fun K "power" "power" t_37 t.a37 t.d37
  kp_37 : PySem.W.keepIn K (.ref t.a37) = true
  b_37 : BindsA t.d37 ["ring", "element", "k"]
  g_37 : mg "power" = some (.ref t.a37)
  F_38 : Fun K "divided" "divided" t_38 t.a38 t.d38
  kp_38 : PySem.W.keepIn K (.ref t.a38) = true
  b_38 : BindsA t.d38 ["ring", "one", "other"]
  g_38 : mg "divided" = some (.ref t.a38)
  F_39 : Fun K "divides" "divides" t_39 t.a39 t.d39
  kp_39 : PySem.W.keepIn K (.ref t.a39) = true
  b_39 : BindsA t.d39 ["ring", "one", "other"]
  g_39 : mg "divides" = some (.ref t.a39)
  F_40 : Fun K "_law_spring" "_law_spring" t_40 t.a40 t.d40
  kp_40 : PySem.W.keepIn K (.ref t.a40) = true
  b_40 : BindsA t.d40 ["script", "k"]
  g_40 : mg "_law_spring" = some (.ref t.a40)
  F_41 : Fun K "_law_take" "_law_take" t_41 t.a41 t.d41
  kp_41 : PySem.W.keepIn K (.ref t.a41) = true
  b_41 : BindsA t.d41 ["spring", "many"]
  g_41 : mg "_law_take" = some (.ref t.a41)
  F_42 : Fun K "_law_ring" "_law_ring" t_42 t.a42 t.d42
  kp_42 : PySem.W.keepIn K (.ref t.a42) = true
  b_42 : BindsA t.d42 ["spring"]
  g_42 : mg "_law_ring" = some (.ref t.a42)
  F_43 : Fun K "_law_cut" "_law_cut" t_43 t.a43 t.d43
  kp_43 : PySem.W.keepIn K (.ref t.a43) = true
  b_43 : BindsA t.d43 ["p", "row"]
  g_43 : mg "_law_cut" = some (.ref t.a43)
  F_44 : Fun K "_law_plus" "_law_plus" t_44 t.a44 t.d44
  kp_44 : PySem.W.keepIn K (.ref t.a44) = true
  b_44 : BindsA t.d44 ["ring", "one", "other"]
  g_44 : mg "_law_plus" = some (.ref t.a44)
  F_45 : Fun K "_law_times" "_law_times" t_45 t.a45 t.d45
  kp_45 : PySem.W.keepIn K (.ref t.a45) = true
  b_45 : BindsA t.d45 ["ring", "one", "other"]
  g_45 : mg "_law_times" = some (.ref t.a45)
  F_46 : Fun K "_law_neg" "_law_neg" t_46 t.a46 t.d46
  kp_46 : PySem.W.keepIn K (.ref t.a46) = true
  b_46 : BindsA t.d46 ["ring", "one"]
  g_46 : mg "_law_neg" = some (.ref t.a46)
  F_47 : Fun K "_law_zero" "_law_zero" t_47 t.a47 t.d47
  kp_47 : PySem.W.keepIn K (.ref t.a47) = true
  b_47 : BindsA t.d47 ["ring"]
  g_47 : mg "_law_zero" = some (.ref t.a47)
  F_48 : Fun K "_law_unit" "_law_unit" t_48 t.a48 t.d48
  kp_48 : PySem.W.keepIn K (.ref t.a48) = true
  b_48 : BindsA t.d48 ["ring"]
  g_48 : mg "_law_unit" = some (.ref t.a48)
  F_49 : Fun K "_law_element" "_law_element" t_49 t.a49 t.d49
  kp_49 : PySem.W.keepIn K (.ref t.a49) = true
  b_49 : BindsA t.d49 ["spring", "ring", "wide", "most"]
  g_49 : mg "_law_element" = some (.ref t.a49)
  F_50 : Fun K "_law_is_element" "_law_is_element" t_50 t.a50 t.d50
  kp_50 : PySem.W.keepIn K (.ref t.a50) = true
  b_50 : BindsA t.d50 ["ring", "value"]
  g_50 : mg "_law_is_element" = some (.ref t.a50)
  F_51 : Fun K "_law_is_rest" "_law_is_rest" t_51 t.a51 t.d51
  kp_51 : PySem.W.keepIn K (.ref t.a51) = true
  b_51 : BindsA t.d51 ["ring", "rest", "other"]
  g_51 : mg "_law_is_rest" = some (.ref t.a51)
  F_52 : Fun K "_law_caught" "_law_caught" t_52 t.a52 t.d52
  kp_52 : PySem.W.keepIn K (.ref t.a52) = true
  b_52 : BindsA t.d52 ["which", "ring", "one", "other"]
  g_52 : mg "_law_caught" = some (.ref t.a52)
  F_53 : Fun K "_law_refused" "_law_refused" t_53 t.a53 t.d53
  kp_53 : PySem.W.keepIn K (.ref t.a53) = true
  b_53 : BindsA t.d53 ["spring", "ring", "one"]
  g_53 : mg "_law_refused" = some (.ref t.a53)
  F_54 : Fun K "_law_right" "_law_right" t_54 t.a54 t.d54
  kp_54 : PySem.W.keepIn K (.ref t.a54) = true
  b_54 : BindsA t.d54 ["spring"]
  g_54 : mg "_law_right" = some (.ref t.a54)
  F_55 : Fun K "law" "law" t_55 t.a55 t.d55
  kp_55 : PySem.W.keepIn K (.ref t.a55) = true
  b_55 : BindsA t.d55 ["script"]
  g_55 : mg "law" = some (.ref t.a55)
  cl_4 : L2.Cls K (t.ca 4)
  mc_4 : mg "Whole" = some (.ref (t.ca 4))
  mk_4 : L2.Mk K (t.ca 4) t.a6
  na_4_1 : NoAttr K (t.ca 4) "zero"
  na_4_2 : NoAttr K (t.ca 4) "one"
  m_4_0 : L2.Meth K (t.ca 4) "has" t.a7
  m_4_1 : L2.Meth K (t.ca 4) "of_integer" t.a8
  m_4_2 : L2.Meth K (t.ca 4) "plus" t.a9
  m_4_3 : L2.Meth K (t.ca 4) "less" t.a10
  m_4_4 : L2.Meth K (t.ca 4) "times" t.a11
  m_4_5 : L2.Meth K (t.ca 4) "parted_by" t.a12
  cl_5 : L2.Cls K (t.ca 5)
  mc_5 : mg "Rests" = some (.ref (t.ca 5))
  mk_5 : L2.Mk K (t.ca 5) t.a13
  na_5_3 : NoAttr K (t.ca 5) "p"
  na_5_1 : NoAttr K (t.ca 5) "zero"
  na_5_2 : NoAttr K (t.ca 5) "one"
  m_5_0 : L2.Meth K (t.ca 5) "has" t.a14
  m_5_6 : L2.Meth K (t.ca 5) "trimmed" t.a15
  m_5_1 : L2.Meth K (t.ca 5) "of_integer" t.a16
  m_5_2 : L2.Meth K (t.ca 5) "plus" t.a17
  m_5_3 : L2.Meth K (t.ca 5) "less" t.a18
  m_5_4 : L2.Meth K (t.ca 5) "times" t.a19
  m_5_7 : L2.Meth K (t.ca 5) "back" t.a20
  m_5_5 : L2.Meth K (t.ca 5) "parted_by" t.a21
  mc_0 : mg "SayingError" = some (.ref (t.ca 0))
  kc_0 : PySem.W.keepIn K (.ref (t.ca 0)) = true
  e_0 : DpX.ErrT P K (t.ca 0) (t.ca 0) fi
  sb_0 : PySem.W.subIn K (.ref (t.ca 0)) (.type "BaseException") = some true
  ty_0 : PySem.W.typeIn K (.ref (t.ca 0)) = some (.type "type")
  xf_0 : XfC K (t.ca 0)
  nv_0 : NoAttr K (t.ca 0) "value"
  xc_0 : ExcC K (t.ca 0)
  mc_1 : mg "InvalidRing" = some (.ref (t.ca 1))
  kc_1 : PySem.W.keepIn K (.ref (t.ca 1)) = true
  e_1 : DpX.ErrT P K (t.ca 1) (t.ca 0) fi
  sb_1 : PySem.W.subIn K (.ref (t.ca 1)) (.type "BaseException") = some true
  ty_1 : PySem.W.typeIn K (.ref (t.ca 1)) = some (.type "type")
  xf_1 : XfC K (t.ca 1)
  nv_1 : NoAttr K (t.ca 1) "value"
  xc_1 : ExcC K (t.ca 1)
  mc_2 : mg "InvalidNumber" = some (.ref (t.ca 2))
  kc_2 : PySem.W.keepIn K (.ref (t.ca 2)) = true
  e_2 : DpX.ErrT P K (t.ca 2) (t.ca 0) fi
  sb_2 : PySem.W.subIn K (.ref (t.ca 2)) (.type "BaseException") = some true
  ty_2 : PySem.W.typeIn K (.ref (t.ca 2)) = some (.type "type")
  xf_2 : XfC K (t.ca 2)
  nv_2 : NoAttr K (t.ca 2) "value"
  xc_2 : ExcC K (t.ca 2)
  mc_3 : mg "InvalidElement" = some (.ref (t.ca 3))
  kc_3 : PySem.W.keepIn K (.ref (t.ca 3)) = true
  e_3 : DpX.ErrT P K (t.ca 3) (t.ca 0) fi
  sb_3 : PySem.W.subIn K (.ref (t.ca 3)) (.type "BaseException") = some true
  ty_3 : PySem.W.typeIn K (.ref (t.ca 3)) = some (.type "type")
  xf_3 : XfC K (t.ca 3)
  nv_3 : NoAttr K (t.ca 3) "value"
  xc_3 : ExcC K (t.ca 3)
  s_0_0 : PySem.W.exmOne K (.ref (t.ca 0)) (.ref (t.ca 0)) = some true ∧ PySem.W.kitOne K (.ref (t.ca 0)) (.ref (t.ca 0)) = some true
  s_0_1 : PySem.W.exmOne K (.ref (t.ca 0)) (.ref (t.ca 1)) = some false ∧ PySem.W.kitOne K (.ref (t.ca 0)) (.ref (t.ca 1)) = some false
  s_0_2 : PySem.W.exmOne K (.ref (t.ca 0)) (.ref (t.ca 2)) = some false ∧ PySem.W.kitOne K (.ref (t.ca 0)) (.ref (t.ca 2)) = some false
  s_0_3 : PySem.W.exmOne K (.ref (t.ca 0)) (.ref (t.ca 3)) = some false ∧ PySem.W.kitOne K (.ref (t.ca 0)) (.ref (t.ca 3)) = some false
  s_1_0 : PySem.W.exmOne K (.ref (t.ca 1)) (.ref (t.ca 0)) = some true ∧ PySem.W.kitOne K (.ref (t.ca 1)) (.ref (t.ca 0)) = some true
  s_1_1 : PySem.W.exmOne K (.ref (t.ca 1)) (.ref (t.ca 1)) = some true ∧ PySem.W.kitOne K (.ref (t.ca 1)) (.ref (t.ca 1)) = some true
  s_1_2 : PySem.W.exmOne K (.ref (t.ca 1)) (.ref (t.ca 2)) = some false ∧ PySem.W.kitOne K (.ref (t.ca 1)) (.ref (t.ca 2)) = some false
  s_1_3 : PySem.W.exmOne K (.ref (t.ca 1)) (.ref (t.ca 3)) = some false ∧ PySem.W.kitOne K (.ref (t.ca 1)) (.ref (t.ca 3)) = some false
  s_2_0 : PySem.W.exmOne K (.ref (t.ca 2)) (.ref (t.ca 0)) = some true ∧ PySem.W.kitOne K (.ref (t.ca 2)) (.ref (t.ca 0)) = some true
  s_2_1 : PySem.W.exmOne K (.ref (t.ca 2)) (.ref (t.ca 1)) = some false ∧ PySem.W.kitOne K (.ref (t.ca 2)) (.ref (t.ca 1)) = some false
  s_2_2 : PySem.W.exmOne K (.ref (t.ca 2)) (.ref (t.ca 2)) = some true ∧ PySem.W.kitOne K (.ref (t.ca 2)) (.ref (t.ca 2)) = some true
  s_2_3 : PySem.W.exmOne K (.ref (t.ca 2)) (.ref (t.ca 3)) = some false ∧ PySem.W.kitOne K (.ref (t.ca 2)) (.ref (t.ca 3)) = some false
  s_3_0 : PySem.W.exmOne K (.ref (t.ca 3)) (.ref (t.ca 0)) = some true ∧ PySem.W.kitOne K (.ref (t.ca 3)) (.ref (t.ca 0)) = some true
  s_3_1 : PySem.W.exmOne K (.ref (t.ca 3)) (.ref (t.ca 1)) = some false ∧ PySem.W.kitOne K (.ref (t.ca 3)) (.ref (t.ca 1)) = some false
  s_3_2 : PySem.W.exmOne K (.ref (t.ca 3)) (.ref (t.ca 2)) = some false ∧ PySem.W.kitOne K (.ref (t.ca 3)) (.ref (t.ca 2)) = some false
  s_3_3 : PySem.W.exmOne K (.ref (t.ca 3)) (.ref (t.ca 3)) = some true ∧ PySem.W.kitOne K (.ref (t.ca 3)) (.ref (t.ca 3)) = some true
  c_BY : ∃ u, mg "BY" = some u ∧ ∃ v, RelV v u ∧ ∀ F, Rep (gx K t) F (.str "by") v
  c_MOST_POWER : ∃ u, mg "MOST_POWER" = some u ∧ ∃ v, RelV v u ∧ ∀ F, Rep (gx K t) F (.int 40) v
  c_PRIMES : ∃ u, mg "PRIMES" = some u ∧ ∃ v, RelV v u ∧ ∀ F, Rep (gx K t) F (.tup [(.int 2), (.int 3), (.int 5)]) v
  c_WHOLE : ∃ u, mg "WHOLE" = some u ∧ ∃ v, RelV v u ∧ ∀ F, Rep (gx K t) F (.tup [(.str "whole")]) v

structure AllOk (P : Program) (w : World) (K : PySem.W.Frag) (mg : Str → Option Value) (base : Heap) (t : Tab) (n : Nat) : Prop where
  ok_0 : FnD P w K mg base (gx K t) (callP pr n) (2 * n) 0 t.a0 t.d0 ["value"]
  ok_1 : FnD P w K mg base (gx K t) (callP pr n) (2 * n) 1 t.a1 t.d1 ["value", "low", "high"]
  ok_2 : FnD P w K mg base (gx K t) (callP pr n) (2 * n) 2 t.a2 t.d2 ["number", "low", "high"]
  ok_3 : FnD P w K mg base (gx K t) (callP pr n) (2 * n) 3 t.a3 t.d3 ["value"]
  ok_4 : FnD P w K mg base (gx K t) (callP pr n) (2 * n) 4 t.a4 t.d4 ["by", "one", "other"]
  ok_5 : FnD P w K mg base (gx K t) (callP pr n) (2 * n) 5 t.a5 t.d5 ["by", "one", "k"]
  ok_6 : FnD P w K mg base (gx K t) (callP pr n) (2 * n) 6 t.a6 t.d6 ["self"]
  ok_7 : FnD P w K mg base (gx K t) (callP pr n) (2 * n) 7 t.a7 t.d7 ["self", "value"]
  ok_8 : FnD P w K mg base (gx K t) (callP pr n) (2 * n) 8 t.a8 t.d8 ["self", "k"]
  ok_9 : FnD P w K mg base (gx K t) (callP pr n) (2 * n) 9 t.a9 t.d9 ["self", "one", "other"]
  ok_10 : FnD P w K mg base (gx K t) (callP pr n) (2 * n) 10 t.a10 t.d10 ["self", "one", "other"]
  ok_11 : FnD P w K mg base (gx K t) (callP pr n) (2 * n) 11 t.a11 t.d11 ["self", "one", "other"]
  ok_12 : FnD P w K mg base (gx K t) (callP pr n) (2 * n) 12 t.a12 t.d12 ["self", "one", "other"]
  ok_13 : FnD P w K mg base (gx K t) (callP pr n) (2 * n) 13 t.a13 t.d13 ["self", "p"]
  ok_14 : FnD P w K mg base (gx K t) (callP pr n) (2 * n) 14 t.a14 t.d14 ["self", "value"]
  ok_15 : FnD P w K mg base (gx K t) (callP pr n) (2 * n) 15 t.a15 t.d15 ["self", "row"]
  ok_16 : FnD P w K mg base (gx K t) (callP pr n) (2 * n) 16 t.a16 t.d16 ["self", "k"]
  ok_17 : FnD P w K mg base (gx K t) (callP pr n) (2 * n) 17 t.a17 t.d17 ["self", "one", "other"]
  ok_18 : FnD P w K mg base (gx K t) (callP pr n) (2 * n) 18 t.a18 t.d18 ["self", "one", "other"]
  ok_19 : FnD P w K mg base (gx K t) (callP pr n) (2 * n) 19 t.a19 t.d19 ["self", "one", "other"]
  ok_20 : FnD P w K mg base (gx K t) (callP pr n) (2 * n) 20 t.a20 t.d20 ["self", "rest"]
  ok_21 : FnD P w K mg base (gx K t) (callP pr n) (2 * n) 21 t.a21 t.d21 ["self", "one", "other"]
  ok_22 : FnD P w K mg base (gx K t) (callP pr n) (2 * n) 22 t.a22 t.d22 ["value"]
  ok_23 : FnD P w K mg base (gx K t) (callP pr n) (2 * n) 23 t.a23 t.d23 ["ring"]
  ok_24 : FnD P w K mg base (gx K t) (callP pr n) (2 * n) 24 t.a24 t.d24 ["value"]
  ok_25 : FnD P w K mg base (gx K t) (callP pr n) (2 * n) 25 t.a25 t.d25 ["ring"]
  ok_26 : FnD P w K mg base (gx K t) (callP pr n) (2 * n) 26 t.a26 t.d26 ["ring"]
  ok_27 : FnD P w K mg base (gx K t) (callP pr n) (2 * n) 27 t.a27 t.d27 ["by", "element"]
  ok_28 : FnD P w K mg base (gx K t) (callP pr n) (2 * n) 28 t.a28 t.d28 ["by", "one", "other"]
  ok_29 : FnD P w K mg base (gx K t) (callP pr n) (2 * n) 29 t.a29 t.d29 ["ring", "value"]
  ok_30 : FnD P w K mg base (gx K t) (callP pr n) (2 * n) 30 t.a30 t.d30 ["ring"]
  ok_31 : FnD P w K mg base (gx K t) (callP pr n) (2 * n) 31 t.a31 t.d31 ["ring"]
  ok_32 : FnD P w K mg base (gx K t) (callP pr n) (2 * n) 32 t.a32 t.d32 ["ring", "k"]
  ok_33 : FnD P w K mg base (gx K t) (callP pr n) (2 * n) 33 t.a33 t.d33 ["by", "element"]
  ok_34 : FnD P w K mg base (gx K t) (callP pr n) (2 * n) 34 t.a34 t.d34 ["ring", "one", "other"]
  ok_35 : FnD P w K mg base (gx K t) (callP pr n) (2 * n) 35 t.a35 t.d35 ["ring", "one", "other"]
  ok_36 : FnD P w K mg base (gx K t) (callP pr n) (2 * n) 36 t.a36 t.d36 ["ring", "one", "other"]
  ok_37 : FnD P w K mg base (gx K t) (callP pr n) (2 * n) 37 t.a37 t.d37 ["ring", "element", "k"]
  ok_38 : FnD P w K mg base (gx K t) (callP pr n) (2 * n) 38 t.a38 t.d38 ["ring", "one", "other"]
  ok_39 : FnD P w K mg base (gx K t) (callP pr n) (2 * n) 39 t.a39 t.d39 ["ring", "one", "other"]
  ok_40 : FnD P w K mg base (gx K t) (callP pr n) (2 * n) 40 t.a40 t.d40 ["script", "k"]
  ok_41 : FnD P w K mg base (gx K t) (callP pr n) (2 * n) 41 t.a41 t.d41 ["spring", "many"]
  ok_42 : FnD P w K mg base (gx K t) (callP pr n) (2 * n) 42 t.a42 t.d42 ["spring"]
  ok_43 : FnD P w K mg base (gx K t) (callP pr n) (2 * n) 43 t.a43 t.d43 ["p", "row"]
  ok_44 : FnD P w K mg base (gx K t) (callP pr n) (2 * n) 44 t.a44 t.d44 ["ring", "one", "other"]
  ok_45 : FnD P w K mg base (gx K t) (callP pr n) (2 * n) 45 t.a45 t.d45 ["ring", "one", "other"]
  ok_46 : FnD P w K mg base (gx K t) (callP pr n) (2 * n) 46 t.a46 t.d46 ["ring", "one"]
  ok_47 : FnD P w K mg base (gx K t) (callP pr n) (2 * n) 47 t.a47 t.d47 ["ring"]
  ok_48 : FnD P w K mg base (gx K t) (callP pr n) (2 * n) 48 t.a48 t.d48 ["ring"]
  ok_49 : FnD P w K mg base (gx K t) (callP pr n) (2 * n) 49 t.a49 t.d49 ["spring", "ring", "wide", "most"]
  ok_50 : FnD P w K mg base (gx K t) (callP pr n) (2 * n) 50 t.a50 t.d50 ["ring", "value"]
  ok_51 : FnD P w K mg base (gx K t) (callP pr n) (2 * n) 51 t.a51 t.d51 ["ring", "rest", "other"]
  ok_52 : FnD P w K mg base (gx K t) (callP pr n) (2 * n) 52 t.a52 t.d52 ["which", "ring", "one", "other"]
  ok_53 : FnD P w K mg base (gx K t) (callP pr n) (2 * n) 53 t.a53 t.d53 ["spring", "ring", "one"]
  ok_54 : FnD P w K mg base (gx K t) (callP pr n) (2 * n) 54 t.a54 t.d54 ["spring"]
  ok_55 : FnD P w K mg base (gx K t) (callP pr n) (2 * n) 55 t.a55 t.d55 ["script"]
theorem all_in {α : Type} {P : α → Prop} {l : List α} {x : α} (h : x ∈ l) (a : ∀ y ∈ l, P y) : P x := a x h
theorem look_in {α β : Type} [BEq α] [LawfulBEq α] {l : List (α × β)} {a : α} {b : β} (h : l.lookup a = some b) : (a, b) ∈ l := by
  induction l with
  | nil => cases h
  | cons p r ih =>
    obtain ⟨c, d⟩ := p
    rw [List.lookup_cons] at h
    cases e : (a == c) with
    | true => rw [e] at h; cases h; rw [eq_of_beq e]; exact List.mem_cons_self
    | false => rw [e] at h; exact List.mem_cons_of_mem _ (ih h)
section
variable {P : Program} {w : World} {K : PySem.W.Frag} {mg : Str → Option Value} {base : Heap} {t : Tab} {fi : Addr} {n : Nat}
theorem fk_of (T : Tx P K mg t fi) : Fk K (gx K t) pr.fok pr.eok where
  ins := fun c f h => all_in (P := fun y : Nat × Nat => L2.Cls K ((gx K t).cls y.1) ∧ NoAttr K ((gx K t).cls y.1) ((gx K t).fld y.2) ∧ y.2 < (gx K t).nf) (l := [(4, 1), (4, 2), (5, 3), (5, 1), (5, 2)]) (x := (c, f)) (by simpa  using List.contains_iff_mem.mp h) (List.forall_mem_cons.mpr ⟨⟨T.cl_4, T.na_4_1, (by show (1 : Nat) < 4; decide)⟩, List.forall_mem_cons.mpr ⟨⟨T.cl_4, T.na_4_2, (by show (2 : Nat) < 4; decide)⟩, List.forall_mem_cons.mpr ⟨⟨T.cl_5, T.na_5_3, (by show (3 : Nat) < 4; decide)⟩, List.forall_mem_cons.mpr ⟨⟨T.cl_5, T.na_5_1, (by show (1 : Nat) < 4; decide)⟩, List.forall_mem_cons.mpr ⟨⟨T.cl_5, T.na_5_2, (by show (2 : Nat) < 4; decide)⟩, fun _ h => nomatch h⟩⟩⟩⟩⟩)
  exc := fun c h => all_in (P := fun y : Nat => XfC K ((gx K t).cls y) ∧ NoAttr K ((gx K t).cls y) "value") (l := [0, 1, 2, 3]) (x := c) (by simpa using  List.contains_iff_mem.mp h) (List.forall_mem_cons.mpr ⟨⟨T.xf_0, T.nv_0⟩, List.forall_mem_cons.mpr ⟨⟨T.xf_1, T.nv_1⟩, List.forall_mem_cons.mpr ⟨⟨T.xf_2, T.nv_2⟩, List.forall_mem_cons.mpr ⟨⟨T.xf_3, T.nv_3⟩, fun _ h => nomatch h⟩⟩⟩⟩)
theorem exm_of (T : Tx P K mg t fi) {k c : Nat} {b : Bool} (h : pr.sub k c = some b) : PySem.W.exmOne K (.ref ((gx K t).cls k)) (.ref ((gx K t).cls c)) = some b := all_in (P := fun y : (Nat × Nat) × Bool => PySem.W.exmOne K (.ref ((gx K t).cls y.1.1)) (.ref ((gx K t).cls y.1.2)) = some y.2) (x := ((k, c), b)) (look_in h) (List.forall_mem_cons.mpr ⟨T.s_0_0.1, List.forall_mem_cons.mpr ⟨T.s_0_1.1, List.forall_mem_cons.mpr ⟨T.s_0_2.1, List.forall_mem_cons.mpr ⟨T.s_0_3.1, List.forall_mem_cons.mpr ⟨T.s_1_0.1, List.forall_mem_cons.mpr ⟨T.s_1_1.1, List.forall_mem_cons.mpr ⟨T.s_1_2.1, List.forall_mem_cons.mpr ⟨T.s_1_3.1, List.forall_mem_cons.mpr ⟨T.s_2_0.1, List.forall_mem_cons.mpr ⟨T.s_2_1.1, List.forall_mem_cons.mpr ⟨T.s_2_2.1, List.forall_mem_cons.mpr ⟨T.s_2_3.1, List.forall_mem_cons.mpr ⟨T.s_3_0.1, List.forall_mem_cons.mpr ⟨T.s_3_1.1, List.forall_mem_cons.mpr ⟨T.s_3_2.1, List.forall_mem_cons.mpr ⟨T.s_3_3.1, fun _ h => nomatch h⟩⟩⟩⟩⟩⟩⟩⟩⟩⟩⟩⟩⟩⟩⟩⟩)
theorem isi_of (T : Tx P K mg t fi) {k c : Nat} {b : Bool} (h : pr.sub k c = some b) : ExcC K ((gx K t).cls k) ∧ PySem.W.kitOne K (.ref ((gx K t).cls k)) (.ref ((gx K t).cls c)) = some b := all_in (P := fun y : (Nat × Nat) × Bool => ExcC K ((gx K t).cls y.1.1) ∧ PySem.W.kitOne K (.ref ((gx K t).cls y.1.1)) (.ref ((gx K t).cls y.1.2)) = some y.2) (x := ((k, c), b)) (look_in h) (List.forall_mem_cons.mpr ⟨⟨T.xc_0, T.s_0_0.2⟩, List.forall_mem_cons.mpr ⟨⟨T.xc_0, T.s_0_1.2⟩, List.forall_mem_cons.mpr ⟨⟨T.xc_0, T.s_0_2.2⟩, List.forall_mem_cons.mpr ⟨⟨T.xc_0, T.s_0_3.2⟩, List.forall_mem_cons.mpr ⟨⟨T.xc_1, T.s_1_0.2⟩, List.forall_mem_cons.mpr ⟨⟨T.xc_1, T.s_1_1.2⟩, List.forall_mem_cons.mpr ⟨⟨T.xc_1, T.s_1_2.2⟩, List.forall_mem_cons.mpr ⟨⟨T.xc_1, T.s_1_3.2⟩, List.forall_mem_cons.mpr ⟨⟨T.xc_2, T.s_2_0.2⟩, List.forall_mem_cons.mpr ⟨⟨T.xc_2, T.s_2_1.2⟩, List.forall_mem_cons.mpr ⟨⟨T.xc_2, T.s_2_2.2⟩, List.forall_mem_cons.mpr ⟨⟨T.xc_2, T.s_2_3.2⟩, List.forall_mem_cons.mpr ⟨⟨T.xc_3, T.s_3_0.2⟩, List.forall_mem_cons.mpr ⟨⟨T.xc_3, T.s_3_1.2⟩, List.forall_mem_cons.mpr ⟨⟨T.xc_3, T.s_3_2.2⟩, List.forall_mem_cons.mpr ⟨⟨T.xc_3, T.s_3_3.2⟩, fun _ h => nomatch h⟩⟩⟩⟩⟩⟩⟩⟩⟩⟩⟩⟩⟩⟩⟩⟩)
theorem mt_0 (T : Tx P K mg t fi) (Z : AllOk P w K mg base t n) : MtD P w K mg base (gx K t) pr.meth (callP pr n) (2 * n) "has" 0 where
  cls := fun c f h => all_in (P := fun y : (Nat × Nat) × Nat => y.1.2 = 0 → L2.Cls K ((gx K t).cls y.1.1) ∧ ∃ fa fd ps, L2.Meth K ((gx K t).cls y.1.1) "has" fa ∧ FnD P w K mg base (gx K t) (callP pr n) (2 * n) y.2 fa fd ps ∧ BindsA fd ps) (x := ((c, 0), f)) (look_in h) (List.forall_mem_cons.mpr ⟨fun _ => ⟨T.cl_4, t.a7, t.d7, _, T.m_4_0, Z.ok_7, T.b_7⟩, List.forall_mem_cons.mpr ⟨fun h => absurd h (by decide), List.forall_mem_cons.mpr ⟨fun h => absurd h (by decide), List.forall_mem_cons.mpr ⟨fun h => absurd h (by decide), List.forall_mem_cons.mpr ⟨fun h => absurd h (by decide), List.forall_mem_cons.mpr ⟨fun h => absurd h (by decide), List.forall_mem_cons.mpr ⟨fun _ => ⟨T.cl_5, t.a14, t.d14, _, T.m_5_0, Z.ok_14, T.b_14⟩, List.forall_mem_cons.mpr ⟨fun h => absurd h (by decide), List.forall_mem_cons.mpr ⟨fun h => absurd h (by decide), List.forall_mem_cons.mpr ⟨fun h => absurd h (by decide), List.forall_mem_cons.mpr ⟨fun h => absurd h (by decide), List.forall_mem_cons.mpr ⟨fun h => absurd h (by decide), List.forall_mem_cons.mpr ⟨fun h => absurd h (by decide), List.forall_mem_cons.mpr ⟨fun h => absurd h (by decide), fun _ h => nomatch h⟩⟩⟩⟩⟩⟩⟩⟩⟩⟩⟩⟩⟩⟩) rfl
  nof := by show ∀ j, j < 4 → fnm j ≠ "has"; decide +kernel
theorem mt_1 (T : Tx P K mg t fi) (Z : AllOk P w K mg base t n) : MtD P w K mg base (gx K t) pr.meth (callP pr n) (2 * n) "of_integer" 1 where
  cls := fun c f h => all_in (P := fun y : (Nat × Nat) × Nat => y.1.2 = 1 → L2.Cls K ((gx K t).cls y.1.1) ∧ ∃ fa fd ps, L2.Meth K ((gx K t).cls y.1.1) "of_integer" fa ∧ FnD P w K mg base (gx K t) (callP pr n) (2 * n) y.2 fa fd ps ∧ BindsA fd ps) (x := ((c, 1), f)) (look_in h) (List.forall_mem_cons.mpr ⟨fun h => absurd h (by decide), List.forall_mem_cons.mpr ⟨fun _ => ⟨T.cl_4, t.a8, t.d8, _, T.m_4_1, Z.ok_8, T.b_8⟩, List.forall_mem_cons.mpr ⟨fun h => absurd h (by decide), List.forall_mem_cons.mpr ⟨fun h => absurd h (by decide), List.forall_mem_cons.mpr ⟨fun h => absurd h (by decide), List.forall_mem_cons.mpr ⟨fun h => absurd h (by decide), List.forall_mem_cons.mpr ⟨fun h => absurd h (by decide), List.forall_mem_cons.mpr ⟨fun h => absurd h (by decide), List.forall_mem_cons.mpr ⟨fun _ => ⟨T.cl_5, t.a16, t.d16, _, T.m_5_1, Z.ok_16, T.b_16⟩, List.forall_mem_cons.mpr ⟨fun h => absurd h (by decide), List.forall_mem_cons.mpr ⟨fun h => absurd h (by decide), List.forall_mem_cons.mpr ⟨fun h => absurd h (by decide), List.forall_mem_cons.mpr ⟨fun h => absurd h (by decide), List.forall_mem_cons.mpr ⟨fun h => absurd h (by decide), fun _ h => nomatch h⟩⟩⟩⟩⟩⟩⟩⟩⟩⟩⟩⟩⟩⟩) rfl
  nof := by show ∀ j, j < 4 → fnm j ≠ "of_integer"; decide +kernel
theorem mt_2 (T : Tx P K mg t fi) (Z : AllOk P w K mg base t n) : MtD P w K mg base (gx K t) pr.meth (callP pr n) (2 * n) "plus" 2 where
  cls := fun c f h => all_in (P := fun y : (Nat × Nat) × Nat => y.1.2 = 2 → L2.Cls K ((gx K t).cls y.1.1) ∧ ∃ fa fd ps, L2.Meth K ((gx K t).cls y.1.1) "plus" fa ∧ FnD P w K mg base (gx K t) (callP pr n) (2 * n) y.2 fa fd ps ∧ BindsA fd ps) (x := ((c, 2), f)) (look_in h) (List.forall_mem_cons.mpr ⟨fun h => absurd h (by decide), List.forall_mem_cons.mpr ⟨fun h => absurd h (by decide), List.forall_mem_cons.mpr ⟨fun _ => ⟨T.cl_4, t.a9, t.d9, _, T.m_4_2, Z.ok_9, T.b_9⟩, List.forall_mem_cons.mpr ⟨fun h => absurd h (by decide), List.forall_mem_cons.mpr ⟨fun h => absurd h (by decide), List.forall_mem_cons.mpr ⟨fun h => absurd h (by decide), List.forall_mem_cons.mpr ⟨fun h => absurd h (by decide), List.forall_mem_cons.mpr ⟨fun h => absurd h (by decide), List.forall_mem_cons.mpr ⟨fun h => absurd h (by decide), List.forall_mem_cons.mpr ⟨fun _ => ⟨T.cl_5, t.a17, t.d17, _, T.m_5_2, Z.ok_17, T.b_17⟩, List.forall_mem_cons.mpr ⟨fun h => absurd h (by decide), List.forall_mem_cons.mpr ⟨fun h => absurd h (by decide), List.forall_mem_cons.mpr ⟨fun h => absurd h (by decide), List.forall_mem_cons.mpr ⟨fun h => absurd h (by decide), fun _ h => nomatch h⟩⟩⟩⟩⟩⟩⟩⟩⟩⟩⟩⟩⟩⟩) rfl
  nof := by show ∀ j, j < 4 → fnm j ≠ "plus"; decide +kernel
theorem mt_3 (T : Tx P K mg t fi) (Z : AllOk P w K mg base t n) : MtD P w K mg base (gx K t) pr.meth (callP pr n) (2 * n) "less" 3 where
  cls := fun c f h => all_in (P := fun y : (Nat × Nat) × Nat => y.1.2 = 3 → L2.Cls K ((gx K t).cls y.1.1) ∧ ∃ fa fd ps, L2.Meth K ((gx K t).cls y.1.1) "less" fa ∧ FnD P w K mg base (gx K t) (callP pr n) (2 * n) y.2 fa fd ps ∧ BindsA fd ps) (x := ((c, 3), f)) (look_in h) (List.forall_mem_cons.mpr ⟨fun h => absurd h (by decide), List.forall_mem_cons.mpr ⟨fun h => absurd h (by decide), List.forall_mem_cons.mpr ⟨fun h => absurd h (by decide), List.forall_mem_cons.mpr ⟨fun _ => ⟨T.cl_4, t.a10, t.d10, _, T.m_4_3, Z.ok_10, T.b_10⟩, List.forall_mem_cons.mpr ⟨fun h => absurd h (by decide), List.forall_mem_cons.mpr ⟨fun h => absurd h (by decide), List.forall_mem_cons.mpr ⟨fun h => absurd h (by decide), List.forall_mem_cons.mpr ⟨fun h => absurd h (by decide), List.forall_mem_cons.mpr ⟨fun h => absurd h (by decide), List.forall_mem_cons.mpr ⟨fun h => absurd h (by decide), List.forall_mem_cons.mpr ⟨fun _ => ⟨T.cl_5, t.a18, t.d18, _, T.m_5_3, Z.ok_18, T.b_18⟩, List.forall_mem_cons.mpr ⟨fun h => absurd h (by decide), List.forall_mem_cons.mpr ⟨fun h => absurd h (by decide), List.forall_mem_cons.mpr ⟨fun h => absurd h (by decide), fun _ h => nomatch h⟩⟩⟩⟩⟩⟩⟩⟩⟩⟩⟩⟩⟩⟩) rfl
  nof := by show ∀ j, j < 4 → fnm j ≠ "less"; decide +kernel
theorem mt_4 (T : Tx P K mg t fi) (Z : AllOk P w K mg base t n) : MtD P w K mg base (gx K t) pr.meth (callP pr n) (2 * n) "times" 4 where
  cls := fun c f h => all_in (P := fun y : (Nat × Nat) × Nat => y.1.2 = 4 → L2.Cls K ((gx K t).cls y.1.1) ∧ ∃ fa fd ps, L2.Meth K ((gx K t).cls y.1.1) "times" fa ∧ FnD P w K mg base (gx K t) (callP pr n) (2 * n) y.2 fa fd ps ∧ BindsA fd ps) (x := ((c, 4), f)) (look_in h) (List.forall_mem_cons.mpr ⟨fun h => absurd h (by decide), List.forall_mem_cons.mpr ⟨fun h => absurd h (by decide), List.forall_mem_cons.mpr ⟨fun h => absurd h (by decide), List.forall_mem_cons.mpr ⟨fun h => absurd h (by decide), List.forall_mem_cons.mpr ⟨fun _ => ⟨T.cl_4, t.a11, t.d11, _, T.m_4_4, Z.ok_11, T.b_11⟩, List.forall_mem_cons.mpr ⟨fun h => absurd h (by decide), List.forall_mem_cons.mpr ⟨fun h => absurd h (by decide), List.forall_mem_cons.mpr ⟨fun h => absurd h (by decide), List.forall_mem_cons.mpr ⟨fun h => absurd h (by decide), List.forall_mem_cons.mpr ⟨fun h => absurd h (by decide), List.forall_mem_cons.mpr ⟨fun h => absurd h (by decide), List.forall_mem_cons.mpr ⟨fun _ => ⟨T.cl_5, t.a19, t.d19, _, T.m_5_4, Z.ok_19, T.b_19⟩, List.forall_mem_cons.mpr ⟨fun h => absurd h (by decide), List.forall_mem_cons.mpr ⟨fun h => absurd h (by decide), fun _ h => nomatch h⟩⟩⟩⟩⟩⟩⟩⟩⟩⟩⟩⟩⟩⟩) rfl
  nof := by show ∀ j, j < 4 → fnm j ≠ "times"; decide +kernel
theorem mt_5 (T : Tx P K mg t fi) (Z : AllOk P w K mg base t n) : MtD P w K mg base (gx K t) pr.meth (callP pr n) (2 * n) "parted_by" 5 where
  cls := fun c f h => all_in (P := fun y : (Nat × Nat) × Nat => y.1.2 = 5 → L2.Cls K ((gx K t).cls y.1.1) ∧ ∃ fa fd ps, L2.Meth K ((gx K t).cls y.1.1) "parted_by" fa ∧ FnD P w K mg base (gx K t) (callP pr n) (2 * n) y.2 fa fd ps ∧ BindsA fd ps) (x := ((c, 5), f)) (look_in h) (List.forall_mem_cons.mpr ⟨fun h => absurd h (by decide), List.forall_mem_cons.mpr ⟨fun h => absurd h (by decide), List.forall_mem_cons.mpr ⟨fun h => absurd h (by decide), List.forall_mem_cons.mpr ⟨fun h => absurd h (by decide), List.forall_mem_cons.mpr ⟨fun h => absurd h (by decide), List.forall_mem_cons.mpr ⟨fun _ => ⟨T.cl_4, t.a12, t.d12, _, T.m_4_5, Z.ok_12, T.b_12⟩, List.forall_mem_cons.mpr ⟨fun h => absurd h (by decide), List.forall_mem_cons.mpr ⟨fun h => absurd h (by decide), List.forall_mem_cons.mpr ⟨fun h => absurd h (by decide), List.forall_mem_cons.mpr ⟨fun h => absurd h (by decide), List.forall_mem_cons.mpr ⟨fun h => absurd h (by decide), List.forall_mem_cons.mpr ⟨fun h => absurd h (by decide), List.forall_mem_cons.mpr ⟨fun h => absurd h (by decide), List.forall_mem_cons.mpr ⟨fun _ => ⟨T.cl_5, t.a21, t.d21, _, T.m_5_5, Z.ok_21, T.b_21⟩, fun _ h => nomatch h⟩⟩⟩⟩⟩⟩⟩⟩⟩⟩⟩⟩⟩⟩) rfl
  nof := by show ∀ j, j < 4 → fnm j ≠ "parted_by"; decide +kernel
theorem mt_6 (T : Tx P K mg t fi) (Z : AllOk P w K mg base t n) : MtD P w K mg base (gx K t) pr.meth (callP pr n) (2 * n) "trimmed" 6 where
  cls := fun c f h => all_in (P := fun y : (Nat × Nat) × Nat => y.1.2 = 6 → L2.Cls K ((gx K t).cls y.1.1) ∧ ∃ fa fd ps, L2.Meth K ((gx K t).cls y.1.1) "trimmed" fa ∧ FnD P w K mg base (gx K t) (callP pr n) (2 * n) y.2 fa fd ps ∧ BindsA fd ps) (x := ((c, 6), f)) (look_in h) (List.forall_mem_cons.mpr ⟨fun h => absurd h (by decide), List.forall_mem_cons.mpr ⟨fun h => absurd h (by decide), List.forall_mem_cons.mpr ⟨fun h => absurd h (by decide), List.forall_mem_cons.mpr ⟨fun h => absurd h (by decide), List.forall_mem_cons.mpr ⟨fun h => absurd h (by decide), List.forall_mem_cons.mpr ⟨fun h => absurd h (by decide), List.forall_mem_cons.mpr ⟨fun h => absurd h (by decide), List.forall_mem_cons.mpr ⟨fun _ => ⟨T.cl_5, t.a15, t.d15, _, T.m_5_6, Z.ok_15, T.b_15⟩, List.forall_mem_cons.mpr ⟨fun h => absurd h (by decide), List.forall_mem_cons.mpr ⟨fun h => absurd h (by decide), List.forall_mem_cons.mpr ⟨fun h => absurd h (by decide), List.forall_mem_cons.mpr ⟨fun h => absurd h (by decide), List.forall_mem_cons.mpr ⟨fun h => absurd h (by decide), List.forall_mem_cons.mpr ⟨fun h => absurd h (by decide), fun _ h => nomatch h⟩⟩⟩⟩⟩⟩⟩⟩⟩⟩⟩⟩⟩⟩) rfl
  nof := by show ∀ j, j < 4 → fnm j ≠ "trimmed"; decide +kernel
theorem mt_7 (T : Tx P K mg t fi) (Z : AllOk P w K mg base t n) : MtD P w K mg base (gx K t) pr.meth (callP pr n) (2 * n) "back" 7 where
  cls := fun c f h => all_in (P := fun y : (Nat × Nat) × Nat => y.1.2 = 7 → L2.Cls K ((gx K t).cls y.1.1) ∧ ∃ fa fd ps, L2.Meth K ((gx K t).cls y.1.1) "back" fa ∧ FnD P w K mg base (gx K t) (callP pr n) (2 * n) y.2 fa fd ps ∧ BindsA fd ps) (x := ((c, 7), f)) (look_in h) (List.forall_mem_cons.mpr ⟨fun h => absurd h (by decide), List.forall_mem_cons.mpr ⟨fun h => absurd h (by decide), List.forall_mem_cons.mpr ⟨fun h => absurd h (by decide), List.forall_mem_cons.mpr ⟨fun h => absurd h (by decide), List.forall_mem_cons.mpr ⟨fun h => absurd h (by decide), List.forall_mem_cons.mpr ⟨fun h => absurd h (by decide), List.forall_mem_cons.mpr ⟨fun h => absurd h (by decide), List.forall_mem_cons.mpr ⟨fun h => absurd h (by decide), List.forall_mem_cons.mpr ⟨fun h => absurd h (by decide), List.forall_mem_cons.mpr ⟨fun h => absurd h (by decide), List.forall_mem_cons.mpr ⟨fun h => absurd h (by decide), List.forall_mem_cons.mpr ⟨fun h => absurd h (by decide), List.forall_mem_cons.mpr ⟨fun _ => ⟨T.cl_5, t.a20, t.d20, _, T.m_5_7, Z.ok_20, T.b_20⟩, List.forall_mem_cons.mpr ⟨fun h => absurd h (by decide), fun _ h => nomatch h⟩⟩⟩⟩⟩⟩⟩⟩⟩⟩⟩⟩⟩⟩) rfl
  nof := by show ∀ j, j < 4 → fnm j ≠ "back"; decide +kernel
theorem bk_24_0_value (T : Tx P K mg t fi) : BindsK t.d24 ["value"] 0 ["value"] [0] := by
  obtain ⟨oc, od, kV, doc, pm, an, cdv, ct, osl, e, lk, hcd⟩ := T.F_24.ex
  intro us ws us' h1 h2 h3
  rw [e]
  match us, ws, h1, h2, h3 with
  | [], [_], _, _, h3 => cases h3; rfl
theorem bk_29_0_value_ring (T : Tx P K mg t fi) : BindsK t.d29 ["ring", "value"] 0 ["value", "ring"] [1, 0] := by
  obtain ⟨oc, od, kV, doc, pm, an, cdv, ct, osl, e, lk, hcd⟩ := T.F_29.ex
  intro us ws us' h1 h2 h3
  rw [e]
  match us, ws, h1, h2, h3 with
  | [], [_, _], _, _, h3 => cases h3; rfl
theorem bk_31_0_ring (T : Tx P K mg t fi) : BindsK t.d31 ["ring"] 0 ["ring"] [0] := by
  obtain ⟨oc, od, kV, doc, pm, an, cdv, ct, osl, e, lk, hcd⟩ := T.F_31.ex
  intro us ws us' h1 h2 h3
  rw [e]
  match us, ws, h1, h2, h3 with
  | [], [_], _, _, h3 => cases h3; rfl
theorem bk_32_0_k_ring (T : Tx P K mg t fi) : BindsK t.d32 ["ring", "k"] 0 ["k", "ring"] [1, 0] := by
  obtain ⟨oc, od, kV, doc, pm, an, cdv, ct, osl, e, lk, hcd⟩ := T.F_32.ex
  intro us ws us' h1 h2 h3
  rw [e]
  match us, ws, h1, h2, h3 with
  | [], [_, _], _, _, h3 => cases h3; rfl
theorem bk_34_0_other_one_ring (T : Tx P K mg t fi) : BindsK t.d34 ["ring", "one", "other"] 0 ["other", "one", "ring"] [2, 1, 0] := by
  obtain ⟨oc, od, kV, doc, pm, an, cdv, ct, osl, e, lk, hcd⟩ := T.F_34.ex
  intro us ws us' h1 h2 h3
  rw [e]
  match us, ws, h1, h2, h3 with
  | [], [_, _, _], _, _, h3 => cases h3; rfl
theorem bk_35_0_other_one_ring (T : Tx P K mg t fi) : BindsK t.d35 ["ring", "one", "other"] 0 ["other", "one", "ring"] [2, 1, 0] := by
  obtain ⟨oc, od, kV, doc, pm, an, cdv, ct, osl, e, lk, hcd⟩ := T.F_35.ex
  intro us ws us' h1 h2 h3
  rw [e]
  match us, ws, h1, h2, h3 with
  | [], [_, _, _], _, _, h3 => cases h3; rfl
theorem bk_38_0_other_one_ring (T : Tx P K mg t fi) : BindsK t.d38 ["ring", "one", "other"] 0 ["other", "one", "ring"] [2, 1, 0] := by
  obtain ⟨oc, od, kV, doc, pm, an, cdv, ct, osl, e, lk, hcd⟩ := T.F_38.ex
  intro us ws us' h1 h2 h3
  rw [e]
  match us, ws, h1, h2, h3 with
  | [], [_, _, _], _, _, h3 => cases h3; rfl
theorem bk_39_0_ring_other_one (T : Tx P K mg t fi) : BindsK t.d39 ["ring", "one", "other"] 0 ["ring", "other", "one"] [0, 2, 1] := by
  obtain ⟨oc, od, kV, doc, pm, an, cdv, ct, osl, e, lk, hcd⟩ := T.F_39.ex
  intro us ws us' h1 h2 h3
  rw [e]
  match us, ws, h1, h2, h3 with
  | [], [_, _, _], _, _, h3 => cases h3; rfl
theorem sc_0 : FnScope ["value"] ["value"] (defScope t_0) := ⟨rfl, rfl, rfl, by decide +kernel, rfl, by decide +kernel, by decide +kernel⟩
theorem f_0 (T : Tx P K mg t fi) (Z : AllOk P w K mg base t n) : FnD P w K mg base (gx K t) (callP pr (n + 1)) (2 * (n + 1)) 0 t.a0 t.d0 ["value"] := by
  obtain ⟨oc, od, kV, doc, pm, an, cdv, ct, osl, e, lk, hcd⟩ := T.F_0.ex
  rw [e] at lk ⊢
  refine fnD_of (p := pr) (df := d_0) (k := 2 * n + 1) lk hcd sc_0 rfl rfl rfl fun A outer s H E hr => ?_
  have tk := takes_of (X := cxOf (L2.CX P w) P w K mg base ["value"] "is_integer" (defScope t_0) t.a0 cdv A outer s H E) (E := E) rfl rfl rfl rfl
  exact (s_cons (s_ret (c_and (pk_of (c_isi rfl (ty_b (t := .int) T.z_int (by decide +kernel) rfl) T.z_isinstance (vk 0))) (c_one (c_not (pk_of (c_isi rfl (ty_b (t := .bool) T.z_bool (by decide +kernel) rfl) T.z_isinstance (vk 0))))))) s_nil)
theorem sc_1 : FnScope ["value", "low", "high"] ["value", "low", "high"] (defScope t_1) := ⟨rfl, rfl, rfl, by decide +kernel, rfl, by decide +kernel, by decide +kernel⟩
theorem f_1 (T : Tx P K mg t fi) (Z : AllOk P w K mg base t n) : FnD P w K mg base (gx K t) (callP pr (n + 1)) (2 * (n + 1)) 1 t.a1 t.d1 ["value", "low", "high"] := by
  obtain ⟨oc, od, kV, doc, pm, an, cdv, ct, osl, e, lk, hcd⟩ := T.F_1.ex
  rw [e] at lk ⊢
  refine fnD_of (p := pr) (df := d_1) (k := 2 * n + 1) lk hcd sc_1 rfl rfl rfl fun A outer s H E hr => ?_
  have tk := takes_of (X := cxOf (L2.CX P w) P w K mg base ["value", "low", "high"] "is_between" (defScope t_1) t.a1 cdv A outer s H E) (E := E) rfl rfl rfl rfl
  exact (s_cons (s_ret (c_and (pk_of (c_call Z.ok_0 (hr.mono (by omega)) T.g_0 T.kp_0 T.b_0 tk (a_cons (a_sh (vs 0)) a_nil))) (c_one (c_chain (od_le) (od_le) (vk 1) (vk 0) (vk 2))))) s_nil)
theorem sc_2 : FnScope ["number", "low", "high"] ["number", "low", "high"] (defScope t_2) := ⟨rfl, rfl, rfl, by decide +kernel, rfl, by decide +kernel, by decide +kernel⟩
theorem f_2 (T : Tx P K mg t fi) (Z : AllOk P w K mg base t n) : FnD P w K mg base (gx K t) (callP pr (n + 1)) (2 * (n + 1)) 2 t.a2 t.d2 ["number", "low", "high"] := by
  obtain ⟨oc, od, kV, doc, pm, an, cdv, ct, osl, e, lk, hcd⟩ := T.F_2.ex
  rw [e] at lk ⊢
  refine fnD_of (p := pr) (df := d_2) (k := 2 * n + 1) lk hcd sc_2 rfl rfl rfl fun A outer s H E hr => ?_
  have tk := takes_of (X := cxOf (L2.CX P w) P w K mg base ["number", "low", "high"] "need_number" (defScope t_2) t.a2 cdv A outer s H E) (E := E) rfl rfl rfl rfl
  exact (s_cons (s_if (t_bool (t_or (t_cmp (od_lt) (vk 0) (vk 1)) (t_or1 (op := .Or) (t_bool (t_and (t_cmp (od_isNot) (vk 2) (pk_of (c_non))) (t_and1 (op := .And) (t_cmp (od_gt) (vk 0) (vk 2)))))))) (s_cons (s_raise T.e_2 rfl tk hr T.mc_2 T.kc_2 T.z_super (raises_own T.sb_2 T.ty_2) (vs 0)) s_nil) s_nil) s_nil)
theorem sc_3 : FnScope ["value", "item"] ["value"] (defScope t_3) := ⟨rfl, rfl, rfl, by decide +kernel, rfl, by decide +kernel, by decide +kernel⟩
theorem f_3 (T : Tx P K mg t fi) (Z : AllOk P w K mg base t n) : FnD P w K mg base (gx K t) (callP pr (n + 1)) (2 * (n + 1)) 3 t.a3 t.d3 ["value"] := by
  obtain ⟨oc, od, kV, doc, pm, an, cdv, ct, osl, e, lk, hcd⟩ := T.F_3.ex
  rw [e] at lk ⊢
  refine fnD_of (p := pr) (df := d_3) (k := 2 * n + 1) lk hcd sc_3 rfl rfl rfl fun A outer s H E hr => ?_
  have tk := takes_of (X := cxOf (L2.CX P w) P w K mg base ["value", "item"] "anew" (defScope t_3) t.a3 cdv A outer s H E) (E := E) rfl rfl rfl rfl
  exact (s_cons (s_if (t_val (pk_of (c_isi rfl (ty_b (t := .tuple) T.z_tuple (by decide +kernel) rfl) T.z_isinstance (vk 0)))) (s_cons (s_ret (c_biT (bd_tuple rfl) T.z_tuple (p_cons (pk_of (c_lc (own := [(("item" : Str), 1)]) rfl sc_3.nd (it_seq rfl (vs 0)) (blkOk_by (by rfl)) (fun _ _ _ _ _ => gn 1 sc_3.nd) (fun _ _ _ _ _ => ts_nil) (fun _ _ _ _ _ => c_call Z.ok_3 (hr.mono (by omega)) T.g_3 T.kp_3 T.b_3 takes0 (a_cons (a_sh (vs 1)) a_nil)) (has_sub (by decide)))) p_nil))) s_nil) s_nil) (s_cons (s_if (t_val (pk_of (c_isi rfl (ty_b (t := .list) T.z_list (by decide +kernel) rfl) T.z_isinstance (vk 0)))) (s_cons (s_ret (c_lc (own := [(("item" : Str), 1)]) rfl sc_3.nd (it_seq rfl (vs 0)) (blkOk_by (by rfl)) (fun _ _ _ _ _ => gn 1 sc_3.nd) (fun _ _ _ _ _ => ts_nil) (fun _ _ _ _ _ => c_call Z.ok_3 (hr.mono (by omega)) T.g_3 T.kp_3 T.b_3 takes0 (a_cons (a_sh (vs 1)) a_nil)) (has_sub (by decide)))) s_nil) s_nil) (s_cons (s_ret (vm 0)) s_nil)))
theorem sc_4 : FnScope ["by", "one", "other"] ["by", "one", "other"] (defScope t_4) := ⟨rfl, rfl, rfl, by decide +kernel, rfl, by decide +kernel, by decide +kernel⟩
theorem f_4 (T : Tx P K mg t fi) (Z : AllOk P w K mg base t n) : FnD P w K mg base (gx K t) (callP pr (n + 1)) (2 * (n + 1)) 4 t.a4 t.d4 ["by", "one", "other"] := by
  obtain ⟨oc, od, kV, doc, pm, an, cdv, ct, osl, e, lk, hcd⟩ := T.F_4.ex
  rw [e] at lk ⊢
  refine fnD_of (p := pr) (df := d_4) (k := 2 * n + 1) lk hcd sc_4 rfl rfl rfl fun A outer s H E hr => ?_
  have tk := takes_of (X := cxOf (L2.CX P w) P w K mg base ["by", "one", "other"] "is_multiple" (defScope t_4) t.a4 cdv A outer s H E) (E := E) rfl rfl rfl rfl
  exact (s_cons (s_if (t_cmp (od_eq rfl hr.u64) (vk 1) (pk_of (c_fld (fk_of T) rfl (vk 0)))) (s_cons (s_ret (c_cmp (od_eq rfl hr.u64) (vk 2) (pk_of (c_fld (fk_of T) rfl (vk 0))))) s_nil) s_nil) (s_cons (s_ret (c_cmp (od_eq rfl hr.u64) (pk_of (c_idx rfl (pk_of (c_meth (mt_5 T Z) (hr.mono (by omega)) tk (a_sh (vs 0)) (a_cons (a_sh (vs 2)) (a_cons (a_sh (vs 1)) a_nil)))) (pk_of (c_int)))) (pk_of (c_fld (fk_of T) rfl (vk 0))))) s_nil))
theorem sc_5 : FnScope ["by", "one", "k", "found", "_"] ["by", "one", "k"] (defScope t_5) := ⟨rfl, rfl, rfl, by decide +kernel, rfl, by decide +kernel, by decide +kernel⟩
theorem f_5 (T : Tx P K mg t fi) (Z : AllOk P w K mg base t n) : FnD P w K mg base (gx K t) (callP pr (n + 1)) (2 * (n + 1)) 5 t.a5 t.d5 ["by", "one", "k"] := by
  obtain ⟨oc, od, kV, doc, pm, an, cdv, ct, osl, e, lk, hcd⟩ := T.F_5.ex
  rw [e] at lk ⊢
  refine fnD_of (p := pr) (df := d_5) (k := 2 * n + 1) lk hcd sc_5 rfl rfl rfl fun A outer s H E hr => ?_
  have tk := takes_of (X := cxOf (L2.CX P w) P w K mg base ["by", "one", "k", "found", "_"] "raised" (defScope t_5) t.a5 cdv A outer s H E) (E := E) rfl rfl rfl rfl
  exact (s_cons (ss 3 sc_5.nd (c_fld (fk_of T) rfl (vk 0))) (s_cons (s_for (passes_of rfl) rfl (it_rng1 T.z_range (l_cons (vs 2) l_nil)) (gn 4 sc_5.nd) (s_cons (ss 3 sc_5.nd (c_meth (mt_4 T Z) (hr.mono (by omega)) tk (a_sh (vs 0)) (a_cons (a_sh (vs 3)) (a_cons (a_sh (vs 1)) a_nil)))) s_nil)) (s_cons (s_ret (vm 3)) s_nil)))
theorem sc_6 : FnScope ["self"] ["self"] (defScope t_6) := ⟨rfl, rfl, rfl, by decide +kernel, rfl, by decide +kernel, by decide +kernel⟩
theorem f_6 (T : Tx P K mg t fi) (Z : AllOk P w K mg base t n) : FnD P w K mg base (gx K t) (callP pr (n + 1)) (2 * (n + 1)) 6 t.a6 t.d6 ["self"] := by
  obtain ⟨oc, od, kV, doc, pm, an, cdv, ct, osl, e, lk, hcd⟩ := T.F_6.ex
  rw [e] at lk ⊢
  refine fnD_of (p := pr) (df := d_6) (k := 2 * n + 1) lk hcd sc_6 rfl rfl rfl fun A outer s H E hr => ?_
  have tk := takes_of (X := cxOf (L2.CX P w) P w K mg base ["self"] "Whole.__init__" (defScope t_6) t.a6 cdv A outer s H E) (E := E) rfl rfl rfl rfl
  exact (s_cons (s_setFld (fk_of T) rfl (pv 0) (c_int)) (s_cons (s_setFld (fk_of T) rfl (pv 0) (c_int)) s_nil))
theorem sc_7 : FnScope ["self", "value"] ["self", "value"] (defScope t_7) := ⟨rfl, rfl, rfl, by decide +kernel, rfl, by decide +kernel, by decide +kernel⟩
theorem f_7 (T : Tx P K mg t fi) (Z : AllOk P w K mg base t n) : FnD P w K mg base (gx K t) (callP pr (n + 1)) (2 * (n + 1)) 7 t.a7 t.d7 ["self", "value"] := by
  obtain ⟨oc, od, kV, doc, pm, an, cdv, ct, osl, e, lk, hcd⟩ := T.F_7.ex
  rw [e] at lk ⊢
  refine fnD_of (p := pr) (df := d_7) (k := 2 * n + 1) lk hcd sc_7 rfl rfl rfl fun A outer s H E hr => ?_
  have tk := takes_of (X := cxOf (L2.CX P w) P w K mg base ["self", "value"] "Whole.has" (defScope t_7) t.a7 cdv A outer s H E) (E := E) rfl rfl rfl rfl
  exact (s_cons (s_ret (c_call Z.ok_0 (hr.mono (by omega)) T.g_0 T.kp_0 T.b_0 tk (a_cons (a_sh (vs 1)) a_nil))) s_nil)
theorem sc_8 : FnScope ["self", "k"] ["self", "k"] (defScope t_8) := ⟨rfl, rfl, rfl, by decide +kernel, rfl, by decide +kernel, by decide +kernel⟩
theorem f_8 (T : Tx P K mg t fi) (Z : AllOk P w K mg base t n) : FnD P w K mg base (gx K t) (callP pr (n + 1)) (2 * (n + 1)) 8 t.a8 t.d8 ["self", "k"] := by
  obtain ⟨oc, od, kV, doc, pm, an, cdv, ct, osl, e, lk, hcd⟩ := T.F_8.ex
  rw [e] at lk ⊢
  refine fnD_of (p := pr) (df := d_8) (k := 2 * n + 1) lk hcd sc_8 rfl rfl rfl fun A outer s H E hr => ?_
  have tk := takes_of (X := cxOf (L2.CX P w) P w K mg base ["self", "k"] "Whole.of_integer" (defScope t_8) t.a8 cdv A outer s H E) (E := E) rfl rfl rfl rfl
  exact (s_cons (s_ret (vm 1)) s_nil)
theorem sc_9 : FnScope ["self", "one", "other"] ["self", "one", "other"] (defScope t_9) := ⟨rfl, rfl, rfl, by decide +kernel, rfl, by decide +kernel, by decide +kernel⟩
theorem f_9 (T : Tx P K mg t fi) (Z : AllOk P w K mg base t n) : FnD P w K mg base (gx K t) (callP pr (n + 1)) (2 * (n + 1)) 9 t.a9 t.d9 ["self", "one", "other"] := by
  obtain ⟨oc, od, kV, doc, pm, an, cdv, ct, osl, e, lk, hcd⟩ := T.F_9.ex
  rw [e] at lk ⊢
  refine fnD_of (p := pr) (df := d_9) (k := 2 * n + 1) lk hcd sc_9 rfl rfl rfl fun A outer s H E hr => ?_
  have tk := takes_of (X := cxOf (L2.CX P w) P w K mg base ["self", "one", "other"] "Whole.plus" (defScope t_9) t.a9 cdv A outer s H E) (E := E) rfl rfl rfl rfl
  exact (s_cons (s_ret (c_bin (od_add rfl) (vk 1) (vk 2))) s_nil)
theorem sc_10 : FnScope ["self", "one", "other"] ["self", "one", "other"] (defScope t_10) := ⟨rfl, rfl, rfl, by decide +kernel, rfl, by decide +kernel, by decide +kernel⟩
theorem f_10 (T : Tx P K mg t fi) (Z : AllOk P w K mg base t n) : FnD P w K mg base (gx K t) (callP pr (n + 1)) (2 * (n + 1)) 10 t.a10 t.d10 ["self", "one", "other"] := by
  obtain ⟨oc, od, kV, doc, pm, an, cdv, ct, osl, e, lk, hcd⟩ := T.F_10.ex
  rw [e] at lk ⊢
  refine fnD_of (p := pr) (df := d_10) (k := 2 * n + 1) lk hcd sc_10 rfl rfl rfl fun A outer s H E hr => ?_
  have tk := takes_of (X := cxOf (L2.CX P w) P w K mg base ["self", "one", "other"] "Whole.less" (defScope t_10) t.a10 cdv A outer s H E) (E := E) rfl rfl rfl rfl
  exact (s_cons (s_ret (c_bin (od_sub) (vk 1) (vk 2))) s_nil)
theorem sc_11 : FnScope ["self", "one", "other"] ["self", "one", "other"] (defScope t_11) := ⟨rfl, rfl, rfl, by decide +kernel, rfl, by decide +kernel, by decide +kernel⟩
theorem f_11 (T : Tx P K mg t fi) (Z : AllOk P w K mg base t n) : FnD P w K mg base (gx K t) (callP pr (n + 1)) (2 * (n + 1)) 11 t.a11 t.d11 ["self", "one", "other"] := by
  obtain ⟨oc, od, kV, doc, pm, an, cdv, ct, osl, e, lk, hcd⟩ := T.F_11.ex
  rw [e] at lk ⊢
  refine fnD_of (p := pr) (df := d_11) (k := 2 * n + 1) lk hcd sc_11 rfl rfl rfl fun A outer s H E hr => ?_
  have tk := takes_of (X := cxOf (L2.CX P w) P w K mg base ["self", "one", "other"] "Whole.times" (defScope t_11) t.a11 cdv A outer s H E) (E := E) rfl rfl rfl rfl
  exact (s_cons (s_ret (c_bin (od_mul rfl) (vk 1) (vk 2))) s_nil)
theorem sc_12 : FnScope ["self", "one", "other", "rest"] ["self", "one", "other"] (defScope t_12) := ⟨rfl, rfl, rfl, by decide +kernel, rfl, by decide +kernel, by decide +kernel⟩
theorem f_12 (T : Tx P K mg t fi) (Z : AllOk P w K mg base t n) : FnD P w K mg base (gx K t) (callP pr (n + 1)) (2 * (n + 1)) 12 t.a12 t.d12 ["self", "one", "other"] := by
  obtain ⟨oc, od, kV, doc, pm, an, cdv, ct, osl, e, lk, hcd⟩ := T.F_12.ex
  rw [e] at lk ⊢
  refine fnD_of (p := pr) (df := d_12) (k := 2 * n + 1) lk hcd sc_12 rfl rfl rfl fun A outer s H E hr => ?_
  have tk := takes_of (X := cxOf (L2.CX P w) P w K mg base ["self", "one", "other", "rest"] "Whole.parted_by" (defScope t_12) t.a12 cdv A outer s H E) (E := E) rfl rfl rfl rfl
  exact (s_cons (ss 3 sc_12.nd (c_bin (od_mod) (vk 1) (pk_of (c_biB (bd_abs) T.z_abs (p_cons (vk 2) p_nil))))) (s_cons (s_ret (c_tup (l_cons (c_bin (od_fdiv) (pk_of (c_bin (od_sub) (vk 1) (vk 3))) (vk 2)) (l_cons (vs 3) l_nil)))) s_nil))
theorem sc_13 : FnScope ["self", "p"] ["self", "p"] (defScope t_13) := ⟨rfl, rfl, rfl, by decide +kernel, rfl, by decide +kernel, by decide +kernel⟩
theorem f_13 (T : Tx P K mg t fi) (Z : AllOk P w K mg base t n) : FnD P w K mg base (gx K t) (callP pr (n + 1)) (2 * (n + 1)) 13 t.a13 t.d13 ["self", "p"] := by
  obtain ⟨oc, od, kV, doc, pm, an, cdv, ct, osl, e, lk, hcd⟩ := T.F_13.ex
  rw [e] at lk ⊢
  refine fnD_of (p := pr) (df := d_13) (k := 2 * n + 1) lk hcd sc_13 rfl rfl rfl fun A outer s H E hr => ?_
  have tk := takes_of (X := cxOf (L2.CX P w) P w K mg base ["self", "p"] "Rests.__init__" (defScope t_13) t.a13 cdv A outer s H E) (E := E) rfl rfl rfl rfl
  exact (s_cons (s_setFld (fk_of T) rfl (pv 0) (vs 1)) (s_cons (s_setFld (fk_of T) rfl (pv 0) (c_tup l_nil)) (s_cons (s_setFld (fk_of T) rfl (pv 0) (c_tup (l_cons (c_int) l_nil))) s_nil)))
theorem sc_14 : FnScope ["self", "value", "one"] ["self", "value"] (defScope t_14) := ⟨rfl, rfl, rfl, by decide +kernel, rfl, by decide +kernel, by decide +kernel⟩
theorem f_14 (T : Tx P K mg t fi) (Z : AllOk P w K mg base t n) : FnD P w K mg base (gx K t) (callP pr (n + 1)) (2 * (n + 1)) 14 t.a14 t.d14 ["self", "value"] := by
  obtain ⟨oc, od, kV, doc, pm, an, cdv, ct, osl, e, lk, hcd⟩ := T.F_14.ex
  rw [e] at lk ⊢
  refine fnD_of (p := pr) (df := d_14) (k := 2 * n + 1) lk hcd sc_14 rfl rfl rfl fun A outer s H E hr => ?_
  have tk := takes_of (X := cxOf (L2.CX P w) P w K mg base ["self", "value", "one"] "Rests.has" (defScope t_14) t.a14 cdv A outer s H E) (E := E) rfl rfl rfl rfl
  exact (s_cons (s_if (t_bool (t_or (t_not (t_val (pk_of (c_isi rfl (ty_b (t := .tuple) T.z_tuple (by decide +kernel) rfl) T.z_isinstance (vk 1))))) (t_or1 (op := .Or) (t_not (t_val (pk_of (c_biB (bd_all rfl) T.z_all (p_cons (pk_of (c_lc (own := [(("one" : Str), 2)]) rfl sc_14.nd (it_seq rfl (vs 1)) (blkOk_by (by rfl)) (fun _ _ _ _ _ => gn 2 sc_14.nd) (fun _ _ _ _ _ => ts_nil) (fun _ _ _ _ _ => c_call Z.ok_1 (hr.mono (by omega)) T.g_1 T.kp_1 T.b_1 takes0 (a_cons (a_sh (vs 2)) (a_cons (a_sh (c_int)) (a_cons (a_sh (c_bin (od_sub) (pk_of (c_fld (fk_of T) rfl (vk 0))) (pk_of (c_int)))) a_nil)))) (has_sub (by decide)))) p_nil)))))))) (s_cons (s_ret (c_bl)) s_nil) s_nil) (s_cons (s_ret (c_or (pk_of (c_cmp (od_eq rfl hr.u64) (pk_of (c_biB (bd_len rfl) T.z_len (p_cons (vk 1) p_nil))) (pk_of (c_int)))) (c_one (c_cmp (od_ne rfl hr.u64) (pk_of (c_idx rfl (vk 1) (pk_of (c_neg (pk_of (c_int)))))) (pk_of (c_int)))))) s_nil))
theorem sc_15 : FnScope ["self", "row", "found", "one"] ["self", "row"] (defScope t_15) := ⟨rfl, rfl, rfl, by decide +kernel, rfl, by decide +kernel, by decide +kernel⟩
theorem f_15 (T : Tx P K mg t fi) (Z : AllOk P w K mg base t n) : FnD P w K mg base (gx K t) (callP pr (n + 1)) (2 * (n + 1)) 15 t.a15 t.d15 ["self", "row"] := by
  obtain ⟨oc, od, kV, doc, pm, an, cdv, ct, osl, e, lk, hcd⟩ := T.F_15.ex
  rw [e] at lk ⊢
  refine fnD_of (p := pr) (df := d_15) (k := 2 * n + 1) lk hcd sc_15 rfl rfl rfl fun A outer s H E hr => ?_
  have tk := takes_of (X := cxOf (L2.CX P w) P w K mg base ["self", "row", "found", "one"] "Rests.trimmed" (defScope t_15) t.a15 cdv A outer s H E) (E := E) rfl rfl rfl rfl
  exact (s_cons (s_setLc (own := [(("one" : Str), 3)]) rfl sc_15.nd rfl rfl rfl (it_seq rfl (vs 1)) (blkOk_by (by rfl)) (fun _ _ _ _ _ => gn 3 sc_15.nd) (fun _ _ _ _ _ => ts_nil) (fun _ _ _ _ _ => c_bin (od_mod) (vk 3) (pk_of (c_fld (fk_of T) rfl (vk 0)))) (has_sub (by decide))) (s_cons (s_while (passes_of rfl) (t_bool (t_and (t_cmp (od_gt) (pk_of (c_biB (bd_len rfl) T.z_len (p_cons (vk 2) p_nil))) (pk_of (c_int))) (t_and1 (op := .And) (t_cmp (od_eq rfl hr.u64) (pk_of (c_idx rfl (vk 2) (pk_of (c_neg (pk_of (c_int)))))) (pk_of (c_int)))))) (s_cons (s_pop (pv 2)) s_nil)) (s_cons (s_ret (c_biT (bd_tuple rfl) T.z_tuple (p_cons (vk 2) p_nil))) s_nil)))
theorem sc_16 : FnScope ["self", "k"] ["self", "k"] (defScope t_16) := ⟨rfl, rfl, rfl, by decide +kernel, rfl, by decide +kernel, by decide +kernel⟩
theorem f_16 (T : Tx P K mg t fi) (Z : AllOk P w K mg base t n) : FnD P w K mg base (gx K t) (callP pr (n + 1)) (2 * (n + 1)) 16 t.a16 t.d16 ["self", "k"] := by
  obtain ⟨oc, od, kV, doc, pm, an, cdv, ct, osl, e, lk, hcd⟩ := T.F_16.ex
  rw [e] at lk ⊢
  refine fnD_of (p := pr) (df := d_16) (k := 2 * n + 1) lk hcd sc_16 rfl rfl rfl fun A outer s H E hr => ?_
  have tk := takes_of (X := cxOf (L2.CX P w) P w K mg base ["self", "k"] "Rests.of_integer" (defScope t_16) t.a16 cdv A outer s H E) (E := E) rfl rfl rfl rfl
  exact (s_cons (s_ret (c_meth (mt_6 T Z) (hr.mono (by omega)) tk (a_sh (vs 0)) (a_cons (a_sh (c_lst (l_cons (vs 1) l_nil))) a_nil))) s_nil)
theorem sc_17 : FnScope ["self", "one", "other", "many", "first", "second", "a", "b"] ["self", "one", "other"] (defScope t_17) := ⟨rfl, rfl, rfl, by decide +kernel, rfl, by decide +kernel, by decide +kernel⟩
theorem f_17 (T : Tx P K mg t fi) (Z : AllOk P w K mg base t n) : FnD P w K mg base (gx K t) (callP pr (n + 1)) (2 * (n + 1)) 17 t.a17 t.d17 ["self", "one", "other"] := by
  obtain ⟨oc, od, kV, doc, pm, an, cdv, ct, osl, e, lk, hcd⟩ := T.F_17.ex
  rw [e] at lk ⊢
  refine fnD_of (p := pr) (df := d_17) (k := 2 * n + 1) lk hcd sc_17 rfl rfl rfl fun A outer s H E hr => ?_
  have tk := takes_of (X := cxOf (L2.CX P w) P w K mg base ["self", "one", "other", "many", "first", "second", "a", "b"] "Rests.plus" (defScope t_17) t.a17 cdv A outer s H E) (E := E) rfl rfl rfl rfl
  exact (s_cons (ss 3 sc_17.nd (c_biB (bd_max rfl) T.z_max (p_cons (pk_of (c_biB (bd_len rfl) T.z_len (p_cons (vk 1) p_nil))) (p_cons (pk_of (c_biB (bd_len rfl) T.z_len (p_cons (vk 2) p_nil))) p_nil)))) (s_cons (ss 4 sc_17.nd (c_bin (od_add rfl) (pk_of (c_biT (bd_list rfl) T.z_list (p_cons (vk 1) p_nil))) (pk_of (c_bin (od_mul rfl) (pk_of (c_lst (l_cons (c_int) l_nil))) (pk_of (c_bin (od_sub) (vk 3) (pk_of (c_biB (bd_len rfl) T.z_len (p_cons (vk 1) p_nil))))))))) (s_cons (ss 5 sc_17.nd (c_bin (od_add rfl) (pk_of (c_biT (bd_list rfl) T.z_list (p_cons (vk 2) p_nil))) (pk_of (c_bin (od_mul rfl) (pk_of (c_lst (l_cons (c_int) l_nil))) (pk_of (c_bin (od_sub) (vk 3) (pk_of (c_biB (bd_len rfl) T.z_len (p_cons (vk 2) p_nil))))))))) (s_cons (s_ret (c_meth (mt_6 T Z) (hr.mono (by omega)) tk (a_sh (vs 0)) (a_cons (a_sh (c_lc (own := [(("a" : Str), 6), (("b" : Str), 7)]) rfl sc_17.nd (it_zip rfl T.z_zip (l_cons (vs 4) (l_cons (vs 5) l_nil))) (blkOk_by (by rfl)) (fun _ _ _ _ _ => g_tp rfl rfl (gs_cons (gn 6 sc_17.nd) (gs_cons (gn 7 sc_17.nd) gs_nil))) (fun _ _ _ _ _ => ts_nil) (fun _ _ _ _ _ => c_bin (od_add rfl) (vk 6) (vk 7)) (has_sub (by decide)))) a_nil))) s_nil))))
theorem sc_18 : FnScope ["self", "one", "other", "a"] ["self", "one", "other"] (defScope t_18) := ⟨rfl, rfl, rfl, by decide +kernel, rfl, by decide +kernel, by decide +kernel⟩
theorem f_18 (T : Tx P K mg t fi) (Z : AllOk P w K mg base t n) : FnD P w K mg base (gx K t) (callP pr (n + 1)) (2 * (n + 1)) 18 t.a18 t.d18 ["self", "one", "other"] := by
  obtain ⟨oc, od, kV, doc, pm, an, cdv, ct, osl, e, lk, hcd⟩ := T.F_18.ex
  rw [e] at lk ⊢
  refine fnD_of (p := pr) (df := d_18) (k := 2 * n + 1) lk hcd sc_18 rfl rfl rfl fun A outer s H E hr => ?_
  have tk := takes_of (X := cxOf (L2.CX P w) P w K mg base ["self", "one", "other", "a"] "Rests.less" (defScope t_18) t.a18 cdv A outer s H E) (E := E) rfl rfl rfl rfl
  exact (s_cons (s_ret (c_meth (mt_2 T Z) (hr.mono (by omega)) tk (a_sh (vs 0)) (a_cons (a_sh (vs 1)) (a_cons (a_sh (c_biT (bd_tuple rfl) T.z_tuple (p_cons (pk_of (c_lc (own := [(("a" : Str), 3)]) rfl sc_18.nd (it_seq rfl (vs 2)) (blkOk_by (by rfl)) (fun _ _ _ _ _ => gn 3 sc_18.nd) (fun _ _ _ _ _ => ts_nil) (fun _ _ _ _ _ => c_neg (vk 3)) (has_sub (by decide)))) p_nil))) a_nil)))) s_nil)
theorem sc_19 : FnScope ["self", "one", "other", "found", "i", "a", "k", "b"] ["self", "one", "other"] (defScope t_19) := ⟨rfl, rfl, rfl, by decide +kernel, rfl, by decide +kernel, by decide +kernel⟩
theorem f_19 (T : Tx P K mg t fi) (Z : AllOk P w K mg base t n) : FnD P w K mg base (gx K t) (callP pr (n + 1)) (2 * (n + 1)) 19 t.a19 t.d19 ["self", "one", "other"] := by
  obtain ⟨oc, od, kV, doc, pm, an, cdv, ct, osl, e, lk, hcd⟩ := T.F_19.ex
  rw [e] at lk ⊢
  refine fnD_of (p := pr) (df := d_19) (k := 2 * n + 1) lk hcd sc_19 rfl rfl rfl fun A outer s H E hr => ?_
  have tk := takes_of (X := cxOf (L2.CX P w) P w K mg base ["self", "one", "other", "found", "i", "a", "k", "b"] "Rests.times" (defScope t_19) t.a19 cdv A outer s H E) (E := E) rfl rfl rfl rfl
  exact (s_cons (ss 3 sc_19.nd (c_bin (od_mul rfl) (pk_of (c_lst (l_cons (c_int) l_nil))) (pk_of (c_bin (od_add rfl) (pk_of (c_biB (bd_len rfl) T.z_len (p_cons (vk 1) p_nil))) (pk_of (c_biB (bd_len rfl) T.z_len (p_cons (vk 2) p_nil))))))) (s_cons (s_for (passes_of rfl) rfl (it_enum rfl T.z_enumerate (l_cons (vs 1) l_nil)) (g_tp rfl rfl (gs_cons (gn 4 sc_19.nd) (gs_cons (gn 5 sc_19.nd) gs_nil))) (s_cons (s_for (passes_of rfl) rfl (it_enum rfl T.z_enumerate (l_cons (vs 2) l_nil)) (g_tp rfl rfl (gs_cons (gn 6 sc_19.nd) (gs_cons (gn 7 sc_19.nd) gs_nil))) (s_cons (s_augIx (pv 3) (c_bin (od_add rfl) (vk 4) (vk 6)) aip_add (c_bin (od_mul rfl) (vk 5) (vk 7))) s_nil)) s_nil)) (s_cons (s_ret (c_meth (mt_6 T Z) (hr.mono (by omega)) tk (a_sh (vs 0)) (a_cons (a_sh (vs 3)) a_nil))) s_nil)))
theorem sc_20 : FnScope ["self", "rest", "one"] ["self", "rest"] (defScope t_20) := ⟨rfl, rfl, rfl, by decide +kernel, rfl, by decide +kernel, by decide +kernel⟩
theorem f_20 (T : Tx P K mg t fi) (Z : AllOk P w K mg base t n) : FnD P w K mg base (gx K t) (callP pr (n + 1)) (2 * (n + 1)) 20 t.a20 t.d20 ["self", "rest"] := by
  obtain ⟨oc, od, kV, doc, pm, an, cdv, ct, osl, e, lk, hcd⟩ := T.F_20.ex
  rw [e] at lk ⊢
  refine fnD_of (p := pr) (df := d_20) (k := 2 * n + 1) lk hcd sc_20 rfl rfl rfl fun A outer s H E hr => ?_
  have tk := takes_of (X := cxOf (L2.CX P w) P w K mg base ["self", "rest", "one"] "Rests.back" (defScope t_20) t.a20 cdv A outer s H E) (E := E) rfl rfl rfl rfl
  exact (s_cons (s_ret (c_idx rfl (pk_of (c_lc (own := [(("one" : Str), 2)]) rfl sc_20.nd (it_rng2 T.z_range (l_cons (c_int) (l_cons (c_fld (fk_of T) rfl (vk 0)) l_nil))) (blkOk_by (by rfl)) (fun _ _ _ _ _ => gn 2 sc_20.nd) (fun _ _ _ _ _ => ts_one (t_cmp (od_eq rfl hr.u64) (pk_of (c_bin (od_mod) (pk_of (c_bin (od_mul rfl) (vk 2) (vk 1))) (pk_of (c_fld (fk_of T) rfl (vk 0))))) (pk_of (c_int)))) (fun _ _ _ _ _ => vs 2) (has_sub (by decide)))) (pk_of (c_int)))) s_nil)
theorem sc_21 : FnScope ["self", "one", "other", "left", "found", "many", "place", "k", "b"] ["self", "one", "other"] (defScope t_21) := ⟨rfl, rfl, rfl, by decide +kernel, rfl, by decide +kernel, by decide +kernel⟩
theorem f_21 (T : Tx P K mg t fi) (Z : AllOk P w K mg base t n) : FnD P w K mg base (gx K t) (callP pr (n + 1)) (2 * (n + 1)) 21 t.a21 t.d21 ["self", "one", "other"] := by
  obtain ⟨oc, od, kV, doc, pm, an, cdv, ct, osl, e, lk, hcd⟩ := T.F_21.ex
  rw [e] at lk ⊢
  refine fnD_of (p := pr) (df := d_21) (k := 2 * n + 1) lk hcd sc_21 rfl rfl rfl fun A outer s H E hr => ?_
  have tk := takes_of (X := cxOf (L2.CX P w) P w K mg base ["self", "one", "other", "left", "found", "many", "place", "k", "b"] "Rests.parted_by" (defScope t_21) t.a21 cdv A outer s H E) (E := E) rfl rfl rfl rfl
  exact (s_cons (ss 3 sc_21.nd (c_biT (bd_list rfl) T.z_list (p_cons (vk 1) p_nil))) (s_cons (ss 4 sc_21.nd (c_bin (od_mul rfl) (pk_of (c_lst (l_cons (c_int) l_nil))) (pk_of (c_biB (bd_max rfl) T.z_max (p_cons (pk_of (c_int)) (p_cons (pk_of (c_bin (od_add rfl) (pk_of (c_bin (od_sub) (pk_of (c_biB (bd_len rfl) T.z_len (p_cons (vk 1) p_nil))) (pk_of (c_biB (bd_len rfl) T.z_len (p_cons (vk 2) p_nil))))) (pk_of (c_int)))) p_nil)))))) (s_cons (ss 5 sc_21.nd (c_meth (mt_7 T Z) (hr.mono (by omega)) tk (a_sh (vs 0)) (a_cons (a_sh (c_idx rfl (vk 2) (pk_of (c_neg (pk_of (c_int)))))) a_nil))) (s_cons (s_for (passes_of rfl) rfl (it_rng3 T.z_range (l_cons (c_bin (od_sub) (pk_of (c_biB (bd_len rfl) T.z_len (p_cons (vk 1) p_nil))) (pk_of (c_biB (bd_len rfl) T.z_len (p_cons (vk 2) p_nil)))) (l_cons (c_neg (pk_of (c_int))) (l_cons (c_neg (pk_of (c_int))) l_nil)))) (gn 6 sc_21.nd) (s_cons (s_setIx (pv 4) (vs 6) (c_bin (od_mod) (pk_of (c_bin (od_mul rfl) (pk_of (c_idx rfl (vk 3) (pk_of (c_bin (od_sub) (pk_of (c_bin (od_add rfl) (vk 6) (pk_of (c_biB (bd_len rfl) T.z_len (p_cons (vk 2) p_nil))))) (pk_of (c_int)))))) (vk 5))) (pk_of (c_fld (fk_of T) rfl (vk 0))))) (s_cons (s_for (passes_of rfl) rfl (it_enum rfl T.z_enumerate (l_cons (vs 2) l_nil)) (g_tp rfl rfl (gs_cons (gn 7 sc_21.nd) (gs_cons (gn 8 sc_21.nd) gs_nil))) (s_cons (s_augIx (pv 3) (c_bin (od_add rfl) (vk 6) (vk 7)) aip_sub (c_bin (od_mul rfl) (pk_of (c_idx rfl (vk 4) (vk 6))) (vk 8))) s_nil)) s_nil))) (s_cons (s_ret (c_tup (l_cons (c_meth (mt_6 T Z) (hr.mono (by omega)) tk (a_sh (vs 0)) (a_cons (a_sh (vs 4)) a_nil)) (l_cons (c_meth (mt_6 T Z) (hr.mono (by omega)) tk (a_sh (vs 0)) (a_cons (a_sh (vs 3)) a_nil)) l_nil)))) s_nil)))))
theorem sc_22 : FnScope ["value"] ["value"] (defScope t_22) := ⟨rfl, rfl, rfl, by decide +kernel, rfl, by decide +kernel, by decide +kernel⟩
theorem f_22 (T : Tx P K mg t fi) (Z : AllOk P w K mg base t n) : FnD P w K mg base (gx K t) (callP pr (n + 1)) (2 * (n + 1)) 22 t.a22 t.d22 ["value"] := by
  obtain ⟨oc, od, kV, doc, pm, an, cdv, ct, osl, e, lk, hcd⟩ := T.F_22.ex
  rw [e] at lk ⊢
  refine fnD_of (p := pr) (df := d_22) (k := 2 * n + 1) lk hcd sc_22 rfl rfl rfl fun A outer s H E hr => ?_
  have tk := takes_of (X := cxOf (L2.CX P w) P w K mg base ["value"] "is_ring_of" (defScope t_22) t.a22 cdv A outer s H E) (E := E) rfl rfl rfl rfl
  exact (s_cons (s_if (t_bool (t_or (t_not (t_val (pk_of (c_isi rfl (ty_b (t := .tuple) T.z_tuple (by decide +kernel) rfl) T.z_isinstance (vk 0))))) (t_or (t_cmp (od_eq rfl hr.u64) (pk_of (c_biB (bd_len rfl) T.z_len (p_cons (vk 0) p_nil))) (pk_of (c_int))) (t_or1 (op := .Or) (t_not (t_val (pk_of (c_isi rfl (ty_b (t := .str) T.z_str (by decide +kernel) rfl) T.z_isinstance (pk_of (c_idx rfl (vk 0) (pk_of (c_int)))))))))))) (s_cons (s_ret (c_bl)) s_nil) s_nil) (s_cons (s_if (t_cmp (od_eq rfl hr.u64) (pk_of (c_idx rfl (vk 0) (pk_of (c_int)))) (pk_of (c_glE T.c_BY))) (s_cons (s_ret (c_and (pk_of (c_cmp (od_eq rfl hr.u64) (pk_of (c_biB (bd_len rfl) T.z_len (p_cons (vk 0) p_nil))) (pk_of (c_int)))) (c_and (pk_of (c_call Z.ok_0 (hr.mono (by omega)) T.g_0 T.kp_0 T.b_0 tk (a_cons (a_sh (c_idx rfl (vk 0) (pk_of (c_int)))) a_nil))) (c_one (c_cmp (od_in rfl hr.u65) (pk_of (c_idx rfl (vk 0) (pk_of (c_int)))) (pk_of (c_glE T.c_PRIMES))))))) s_nil) s_nil) (s_cons (s_ret (c_cmp (od_eq rfl hr.u64) (vk 0) (pk_of (c_glE T.c_WHOLE)))) s_nil)))
theorem sc_23 : FnScope ["ring"] ["ring"] (defScope t_23) := ⟨rfl, rfl, rfl, by decide +kernel, rfl, by decide +kernel, by decide +kernel⟩
theorem f_23 (T : Tx P K mg t fi) (Z : AllOk P w K mg base t n) : FnD P w K mg base (gx K t) (callP pr (n + 1)) (2 * (n + 1)) 23 t.a23 t.d23 ["ring"] := by
  obtain ⟨oc, od, kV, doc, pm, an, cdv, ct, osl, e, lk, hcd⟩ := T.F_23.ex
  rw [e] at lk ⊢
  refine fnD_of (p := pr) (df := d_23) (k := 2 * n + 1) lk hcd sc_23 rfl rfl rfl fun A outer s H E hr => ?_
  have tk := takes_of (X := cxOf (L2.CX P w) P w K mg base ["ring"] "reckoner" (defScope t_23) t.a23 cdv A outer s H E) (E := E) rfl rfl rfl rfl
  exact (s_cons (s_ret (c_ite (t_cmp (od_eq rfl hr.u64) (pk_of (c_idx rfl (vk 0) (pk_of (c_int)))) (pk_of (c_idx rfl (pk_of (c_glE T.c_WHOLE)) (pk_of (c_int))))) (c_new0 rfl T.mk_4 Z.ok_6 (hr.mono (by omega)) T.mc_4 T.b_6) (c_new rfl T.mk_5 Z.ok_13 (hr.mono (by omega)) T.mc_5 T.b_13 (a_cons (a_sh (c_idx rfl (vk 0) (pk_of (c_int)))) a_nil)))) s_nil)
theorem sc_24 : FnScope ["value"] ["value"] (defScope t_24) := ⟨rfl, rfl, rfl, by decide +kernel, rfl, by decide +kernel, by decide +kernel⟩
theorem f_24 (T : Tx P K mg t fi) (Z : AllOk P w K mg base t n) : FnD P w K mg base (gx K t) (callP pr (n + 1)) (2 * (n + 1)) 24 t.a24 t.d24 ["value"] := by
  obtain ⟨oc, od, kV, doc, pm, an, cdv, ct, osl, e, lk, hcd⟩ := T.F_24.ex
  rw [e] at lk ⊢
  refine fnD_of (p := pr) (df := d_24) (k := 2 * n + 1) lk hcd sc_24 rfl rfl rfl fun A outer s H E hr => ?_
  have tk := takes_of (X := cxOf (L2.CX P w) P w K mg base ["value"] "is_ring" (defScope t_24) t.a24 cdv A outer s H E) (E := E) rfl rfl rfl rfl
  exact (s_cons (s_ret (c_call Z.ok_22 (hr.mono (by omega)) T.g_22 T.kp_22 T.b_22 tk (a_cons (a_sh (vs 0)) a_nil))) s_nil)
theorem sc_25 : FnScope ["ring"] ["ring"] (defScope t_25) := ⟨rfl, rfl, rfl, by decide +kernel, rfl, by decide +kernel, by decide +kernel⟩
theorem f_25 (T : Tx P K mg t fi) (Z : AllOk P w K mg base t n) : FnD P w K mg base (gx K t) (callP pr (n + 1)) (2 * (n + 1)) 25 t.a25 t.d25 ["ring"] := by
  obtain ⟨oc, od, kV, doc, pm, an, cdv, ct, osl, e, lk, hcd⟩ := T.F_25.ex
  rw [e] at lk ⊢
  refine fnD_of (p := pr) (df := d_25) (k := 2 * n + 1) lk hcd sc_25 rfl rfl rfl fun A outer s H E hr => ?_
  have tk := takes_of (X := cxOf (L2.CX P w) P w K mg base ["ring"] "need_ring" (defScope t_25) t.a25 cdv A outer s H E) (E := E) rfl rfl rfl rfl
  exact (s_cons (s_if (t_not (t_val (pk_of (c_call Z.ok_22 (hr.mono (by omega)) T.g_22 T.kp_22 T.b_22 tk (a_cons (a_sh (vs 0)) a_nil))))) (s_cons (s_raise T.e_1 rfl tk hr T.mc_1 T.kc_1 T.z_super (raises_own T.sb_1 T.ty_1) (c_call Z.ok_3 (hr.mono (by omega)) T.g_3 T.kp_3 T.b_3 tk (a_cons (a_sh (vs 0)) a_nil))) s_nil) s_nil) s_nil)
theorem sc_26 : FnScope ["ring"] ["ring"] (defScope t_26) := ⟨rfl, rfl, rfl, by decide +kernel, rfl, by decide +kernel, by decide +kernel⟩
theorem f_26 (T : Tx P K mg t fi) (Z : AllOk P w K mg base t n) : FnD P w K mg base (gx K t) (callP pr (n + 1)) (2 * (n + 1)) 26 t.a26 t.d26 ["ring"] := by
  obtain ⟨oc, od, kV, doc, pm, an, cdv, ct, osl, e, lk, hcd⟩ := T.F_26.ex
  rw [e] at lk ⊢
  refine fnD_of (p := pr) (df := d_26) (k := 2 * n + 1) lk hcd sc_26 rfl rfl rfl fun A outer s H E hr => ?_
  have tk := takes_of (X := cxOf (L2.CX P w) P w K mg base ["ring"] "reckoner_of" (defScope t_26) t.a26 cdv A outer s H E) (E := E) rfl rfl rfl rfl
  exact (s_cons (s_expr (c_call Z.ok_25 (hr.mono (by omega)) T.g_25 T.kp_25 T.b_25 tk (a_cons (a_sh (vs 0)) a_nil))) (s_cons (s_ret (c_call Z.ok_23 (hr.mono (by omega)) T.g_23 T.kp_23 T.b_23 tk (a_cons (a_sh (vs 0)) a_nil))) s_nil))
theorem sc_27 : FnScope ["by", "element"] ["by", "element"] (defScope t_27) := ⟨rfl, rfl, rfl, by decide +kernel, rfl, by decide +kernel, by decide +kernel⟩
theorem f_27 (T : Tx P K mg t fi) (Z : AllOk P w K mg base t n) : FnD P w K mg base (gx K t) (callP pr (n + 1)) (2 * (n + 1)) 27 t.a27 t.d27 ["by", "element"] := by
  obtain ⟨oc, od, kV, doc, pm, an, cdv, ct, osl, e, lk, hcd⟩ := T.F_27.ex
  rw [e] at lk ⊢
  refine fnD_of (p := pr) (df := d_27) (k := 2 * n + 1) lk hcd sc_27 rfl rfl rfl fun A outer s H E hr => ?_
  have tk := takes_of (X := cxOf (L2.CX P w) P w K mg base ["by", "element"] "need_element" (defScope t_27) t.a27 cdv A outer s H E) (E := E) rfl rfl rfl rfl
  exact (s_cons (s_if (t_not (t_val (pk_of (c_meth (mt_0 T Z) (hr.mono (by omega)) tk (a_sh (vs 0)) (a_cons (a_sh (vs 1)) a_nil))))) (s_cons (s_raise T.e_3 rfl tk hr T.mc_3 T.kc_3 T.z_super (raises_own T.sb_3 T.ty_3) (c_call Z.ok_3 (hr.mono (by omega)) T.g_3 T.kp_3 T.b_3 tk (a_cons (a_sh (vs 1)) a_nil))) s_nil) s_nil) s_nil)
theorem sc_28 : FnScope ["by", "one", "other"] ["by", "one", "other"] (defScope t_28) := ⟨rfl, rfl, rfl, by decide +kernel, rfl, by decide +kernel, by decide +kernel⟩
theorem f_28 (T : Tx P K mg t fi) (Z : AllOk P w K mg base t n) : FnD P w K mg base (gx K t) (callP pr (n + 1)) (2 * (n + 1)) 28 t.a28 t.d28 ["by", "one", "other"] := by
  obtain ⟨oc, od, kV, doc, pm, an, cdv, ct, osl, e, lk, hcd⟩ := T.F_28.ex
  rw [e] at lk ⊢
  refine fnD_of (p := pr) (df := d_28) (k := 2 * n + 1) lk hcd sc_28 rfl rfl rfl fun A outer s H E hr => ?_
  have tk := takes_of (X := cxOf (L2.CX P w) P w K mg base ["by", "one", "other"] "need_two" (defScope t_28) t.a28 cdv A outer s H E) (E := E) rfl rfl rfl rfl
  exact (s_cons (s_expr (c_call Z.ok_27 (hr.mono (by omega)) T.g_27 T.kp_27 T.b_27 tk (a_cons (a_sh (vs 0)) (a_cons (a_sh (vs 1)) a_nil)))) (s_cons (s_expr (c_call Z.ok_27 (hr.mono (by omega)) T.g_27 T.kp_27 T.b_27 tk (a_cons (a_sh (vs 0)) (a_cons (a_sh (vs 2)) a_nil)))) s_nil))
theorem sc_29 : FnScope ["ring", "value"] ["ring", "value"] (defScope t_29) := ⟨rfl, rfl, rfl, by decide +kernel, rfl, by decide +kernel, by decide +kernel⟩
theorem f_29 (T : Tx P K mg t fi) (Z : AllOk P w K mg base t n) : FnD P w K mg base (gx K t) (callP pr (n + 1)) (2 * (n + 1)) 29 t.a29 t.d29 ["ring", "value"] := by
  obtain ⟨oc, od, kV, doc, pm, an, cdv, ct, osl, e, lk, hcd⟩ := T.F_29.ex
  rw [e] at lk ⊢
  refine fnD_of (p := pr) (df := d_29) (k := 2 * n + 1) lk hcd sc_29 rfl rfl rfl fun A outer s H E hr => ?_
  have tk := takes_of (X := cxOf (L2.CX P w) P w K mg base ["ring", "value"] "is_element" (defScope t_29) t.a29 cdv A outer s H E) (E := E) rfl rfl rfl rfl
  exact (s_cons (s_ret (c_meth (mt_0 T Z) (hr.mono (by omega)) tk (a_sh (c_call Z.ok_26 (hr.mono (by omega)) T.g_26 T.kp_26 T.b_26 tk (a_cons (a_sh (vs 0)) a_nil))) (a_cons (a_sh (vs 1)) a_nil))) s_nil)
theorem sc_30 : FnScope ["ring"] ["ring"] (defScope t_30) := ⟨rfl, rfl, rfl, by decide +kernel, rfl, by decide +kernel, by decide +kernel⟩
theorem f_30 (T : Tx P K mg t fi) (Z : AllOk P w K mg base t n) : FnD P w K mg base (gx K t) (callP pr (n + 1)) (2 * (n + 1)) 30 t.a30 t.d30 ["ring"] := by
  obtain ⟨oc, od, kV, doc, pm, an, cdv, ct, osl, e, lk, hcd⟩ := T.F_30.ex
  rw [e] at lk ⊢
  refine fnD_of (p := pr) (df := d_30) (k := 2 * n + 1) lk hcd sc_30 rfl rfl rfl fun A outer s H E hr => ?_
  have tk := takes_of (X := cxOf (L2.CX P w) P w K mg base ["ring"] "zero" (defScope t_30) t.a30 cdv A outer s H E) (E := E) rfl rfl rfl rfl
  exact (s_cons (s_ret (c_fld (fk_of T) rfl (pk_of (c_call Z.ok_26 (hr.mono (by omega)) T.g_26 T.kp_26 T.b_26 tk (a_cons (a_sh (vs 0)) a_nil))))) s_nil)
theorem sc_31 : FnScope ["ring"] ["ring"] (defScope t_31) := ⟨rfl, rfl, rfl, by decide +kernel, rfl, by decide +kernel, by decide +kernel⟩
theorem f_31 (T : Tx P K mg t fi) (Z : AllOk P w K mg base t n) : FnD P w K mg base (gx K t) (callP pr (n + 1)) (2 * (n + 1)) 31 t.a31 t.d31 ["ring"] := by
  obtain ⟨oc, od, kV, doc, pm, an, cdv, ct, osl, e, lk, hcd⟩ := T.F_31.ex
  rw [e] at lk ⊢
  refine fnD_of (p := pr) (df := d_31) (k := 2 * n + 1) lk hcd sc_31 rfl rfl rfl fun A outer s H E hr => ?_
  have tk := takes_of (X := cxOf (L2.CX P w) P w K mg base ["ring"] "unit" (defScope t_31) t.a31 cdv A outer s H E) (E := E) rfl rfl rfl rfl
  exact (s_cons (s_ret (c_fld (fk_of T) rfl (pk_of (c_call Z.ok_26 (hr.mono (by omega)) T.g_26 T.kp_26 T.b_26 tk (a_cons (a_sh (vs 0)) a_nil))))) s_nil)
theorem sc_32 : FnScope ["ring", "k"] ["ring", "k"] (defScope t_32) := ⟨rfl, rfl, rfl, by decide +kernel, rfl, by decide +kernel, by decide +kernel⟩
theorem f_32 (T : Tx P K mg t fi) (Z : AllOk P w K mg base t n) : FnD P w K mg base (gx K t) (callP pr (n + 1)) (2 * (n + 1)) 32 t.a32 t.d32 ["ring", "k"] := by
  obtain ⟨oc, od, kV, doc, pm, an, cdv, ct, osl, e, lk, hcd⟩ := T.F_32.ex
  rw [e] at lk ⊢
  refine fnD_of (p := pr) (df := d_32) (k := 2 * n + 1) lk hcd sc_32 rfl rfl rfl fun A outer s H E hr => ?_
  have tk := takes_of (X := cxOf (L2.CX P w) P w K mg base ["ring", "k"] "element_of" (defScope t_32) t.a32 cdv A outer s H E) (E := E) rfl rfl rfl rfl
  exact (s_cons (s_ret (c_meth (mt_1 T Z) (hr.mono (by omega)) tk (a_sh (c_call Z.ok_26 (hr.mono (by omega)) T.g_26 T.kp_26 T.b_26 tk (a_cons (a_sh (vs 0)) a_nil))) (a_cons (a_sh (vs 1)) a_nil))) s_nil)
theorem sc_33 : FnScope ["by", "element"] ["by", "element"] (defScope t_33) := ⟨rfl, rfl, rfl, by decide +kernel, rfl, by decide +kernel, by decide +kernel⟩
theorem f_33 (T : Tx P K mg t fi) (Z : AllOk P w K mg base t n) : FnD P w K mg base (gx K t) (callP pr (n + 1)) (2 * (n + 1)) 33 t.a33 t.d33 ["by", "element"] := by
  obtain ⟨oc, od, kV, doc, pm, an, cdv, ct, osl, e, lk, hcd⟩ := T.F_33.ex
  rw [e] at lk ⊢
  refine fnD_of (p := pr) (df := d_33) (k := 2 * n + 1) lk hcd sc_33 rfl rfl rfl fun A outer s H E hr => ?_
  have tk := takes_of (X := cxOf (L2.CX P w) P w K mg base ["by", "element"] "need_some" (defScope t_33) t.a33 cdv A outer s H E) (E := E) rfl rfl rfl rfl
  exact (s_cons (s_expr (c_call Z.ok_27 (hr.mono (by omega)) T.g_27 T.kp_27 T.b_27 tk (a_cons (a_sh (vs 0)) (a_cons (a_sh (vs 1)) a_nil)))) (s_cons (s_if (t_cmp (od_eq rfl hr.u64) (vk 1) (pk_of (c_fld (fk_of T) rfl (vk 0)))) (s_cons (s_raise T.e_3 rfl tk hr T.mc_3 T.kc_3 T.z_super (raises_own T.sb_3 T.ty_3) (vs 1)) s_nil) s_nil) s_nil))
theorem sc_34 : FnScope ["ring", "one", "other", "by"] ["ring", "one", "other"] (defScope t_34) := ⟨rfl, rfl, rfl, by decide +kernel, rfl, by decide +kernel, by decide +kernel⟩
theorem f_34 (T : Tx P K mg t fi) (Z : AllOk P w K mg base t n) : FnD P w K mg base (gx K t) (callP pr (n + 1)) (2 * (n + 1)) 34 t.a34 t.d34 ["ring", "one", "other"] := by
  obtain ⟨oc, od, kV, doc, pm, an, cdv, ct, osl, e, lk, hcd⟩ := T.F_34.ex
  rw [e] at lk ⊢
  refine fnD_of (p := pr) (df := d_34) (k := 2 * n + 1) lk hcd sc_34 rfl rfl rfl fun A outer s H E hr => ?_
  have tk := takes_of (X := cxOf (L2.CX P w) P w K mg base ["ring", "one", "other", "by"] "plus" (defScope t_34) t.a34 cdv A outer s H E) (E := E) rfl rfl rfl rfl
  exact (s_cons (ss 3 sc_34.nd (c_call Z.ok_26 (hr.mono (by omega)) T.g_26 T.kp_26 T.b_26 tk (a_cons (a_sh (vs 0)) a_nil))) (s_cons (s_expr (c_call Z.ok_28 (hr.mono (by omega)) T.g_28 T.kp_28 T.b_28 tk (a_cons (a_sh (vs 3)) (a_cons (a_sh (vs 1)) (a_cons (a_sh (vs 2)) a_nil))))) (s_cons (s_ret (c_meth (mt_2 T Z) (hr.mono (by omega)) tk (a_sh (vs 3)) (a_cons (a_sh (vs 1)) (a_cons (a_sh (vs 2)) a_nil)))) s_nil)))
theorem sc_35 : FnScope ["ring", "one", "other", "by"] ["ring", "one", "other"] (defScope t_35) := ⟨rfl, rfl, rfl, by decide +kernel, rfl, by decide +kernel, by decide +kernel⟩
theorem f_35 (T : Tx P K mg t fi) (Z : AllOk P w K mg base t n) : FnD P w K mg base (gx K t) (callP pr (n + 1)) (2 * (n + 1)) 35 t.a35 t.d35 ["ring", "one", "other"] := by
  obtain ⟨oc, od, kV, doc, pm, an, cdv, ct, osl, e, lk, hcd⟩ := T.F_35.ex
  rw [e] at lk ⊢
  refine fnD_of (p := pr) (df := d_35) (k := 2 * n + 1) lk hcd sc_35 rfl rfl rfl fun A outer s H E hr => ?_
  have tk := takes_of (X := cxOf (L2.CX P w) P w K mg base ["ring", "one", "other", "by"] "less" (defScope t_35) t.a35 cdv A outer s H E) (E := E) rfl rfl rfl rfl
  exact (s_cons (ss 3 sc_35.nd (c_call Z.ok_26 (hr.mono (by omega)) T.g_26 T.kp_26 T.b_26 tk (a_cons (a_sh (vs 0)) a_nil))) (s_cons (s_expr (c_call Z.ok_28 (hr.mono (by omega)) T.g_28 T.kp_28 T.b_28 tk (a_cons (a_sh (vs 3)) (a_cons (a_sh (vs 1)) (a_cons (a_sh (vs 2)) a_nil))))) (s_cons (s_ret (c_meth (mt_3 T Z) (hr.mono (by omega)) tk (a_sh (vs 3)) (a_cons (a_sh (vs 1)) (a_cons (a_sh (vs 2)) a_nil)))) s_nil)))
theorem sc_36 : FnScope ["ring", "one", "other", "by"] ["ring", "one", "other"] (defScope t_36) := ⟨rfl, rfl, rfl, by decide +kernel, rfl, by decide +kernel, by decide +kernel⟩
theorem f_36 (T : Tx P K mg t fi) (Z : AllOk P w K mg base t n) : FnD P w K mg base (gx K t) (callP pr (n + 1)) (2 * (n + 1)) 36 t.a36 t.d36 ["ring", "one", "other"] := by
  obtain ⟨oc, od, kV, doc, pm, an, cdv, ct, osl, e, lk, hcd⟩ := T.F_36.ex
  rw [e] at lk ⊢
  refine fnD_of (p := pr) (df := d_36) (k := 2 * n + 1) lk hcd sc_36 rfl rfl rfl fun A outer s H E hr => ?_
  have tk := takes_of (X := cxOf (L2.CX P w) P w K mg base ["ring", "one", "other", "by"] "times" (defScope t_36) t.a36 cdv A outer s H E) (E := E) rfl rfl rfl rfl
  exact (s_cons (ss 3 sc_36.nd (c_call Z.ok_26 (hr.mono (by omega)) T.g_26 T.kp_26 T.b_26 tk (a_cons (a_sh (vs 0)) a_nil))) (s_cons (s_expr (c_call Z.ok_28 (hr.mono (by omega)) T.g_28 T.kp_28 T.b_28 tk (a_cons (a_sh (vs 3)) (a_cons (a_sh (vs 1)) (a_cons (a_sh (vs 2)) a_nil))))) (s_cons (s_ret (c_meth (mt_4 T Z) (hr.mono (by omega)) tk (a_sh (vs 3)) (a_cons (a_sh (vs 1)) (a_cons (a_sh (vs 2)) a_nil)))) s_nil)))
theorem sc_37 : FnScope ["ring", "element", "k", "by"] ["ring", "element", "k"] (defScope t_37) := ⟨rfl, rfl, rfl, by decide +kernel, rfl, by decide +kernel, by decide +kernel⟩
theorem f_37 (T : Tx P K mg t fi) (Z : AllOk P w K mg base t n) : FnD P w K mg base (gx K t) (callP pr (n + 1)) (2 * (n + 1)) 37 t.a37 t.d37 ["ring", "element", "k"] := by
  obtain ⟨oc, od, kV, doc, pm, an, cdv, ct, osl, e, lk, hcd⟩ := T.F_37.ex
  rw [e] at lk ⊢
  refine fnD_of (p := pr) (df := d_37) (k := 2 * n + 1) lk hcd sc_37 rfl rfl rfl fun A outer s H E hr => ?_
  have tk := takes_of (X := cxOf (L2.CX P w) P w K mg base ["ring", "element", "k", "by"] "power" (defScope t_37) t.a37 cdv A outer s H E) (E := E) rfl rfl rfl rfl
  exact (s_cons (ss 3 sc_37.nd (c_call Z.ok_26 (hr.mono (by omega)) T.g_26 T.kp_26 T.b_26 tk (a_cons (a_sh (vs 0)) a_nil))) (s_cons (s_expr (c_call Z.ok_27 (hr.mono (by omega)) T.g_27 T.kp_27 T.b_27 tk (a_cons (a_sh (vs 3)) (a_cons (a_sh (vs 1)) a_nil)))) (s_cons (s_expr (c_call Z.ok_2 (hr.mono (by omega)) T.g_2 T.kp_2 T.b_2 tk (a_cons (a_sh (vs 2)) (a_cons (a_sh (c_int)) (a_cons (a_sh (c_glE T.c_MOST_POWER)) a_nil))))) (s_cons (s_ret (c_call Z.ok_5 (hr.mono (by omega)) T.g_5 T.kp_5 T.b_5 tk (a_cons (a_sh (vs 3)) (a_cons (a_sh (vs 1)) (a_cons (a_sh (vs 2)) a_nil))))) s_nil))))
theorem sc_38 : FnScope ["ring", "one", "other", "by"] ["ring", "one", "other"] (defScope t_38) := ⟨rfl, rfl, rfl, by decide +kernel, rfl, by decide +kernel, by decide +kernel⟩
theorem f_38 (T : Tx P K mg t fi) (Z : AllOk P w K mg base t n) : FnD P w K mg base (gx K t) (callP pr (n + 1)) (2 * (n + 1)) 38 t.a38 t.d38 ["ring", "one", "other"] := by
  obtain ⟨oc, od, kV, doc, pm, an, cdv, ct, osl, e, lk, hcd⟩ := T.F_38.ex
  rw [e] at lk ⊢
  refine fnD_of (p := pr) (df := d_38) (k := 2 * n + 1) lk hcd sc_38 rfl rfl rfl fun A outer s H E hr => ?_
  have tk := takes_of (X := cxOf (L2.CX P w) P w K mg base ["ring", "one", "other", "by"] "divided" (defScope t_38) t.a38 cdv A outer s H E) (E := E) rfl rfl rfl rfl
  exact (s_cons (ss 3 sc_38.nd (c_call Z.ok_26 (hr.mono (by omega)) T.g_26 T.kp_26 T.b_26 tk (a_cons (a_sh (vs 0)) a_nil))) (s_cons (s_expr (c_call Z.ok_27 (hr.mono (by omega)) T.g_27 T.kp_27 T.b_27 tk (a_cons (a_sh (vs 3)) (a_cons (a_sh (vs 1)) a_nil)))) (s_cons (s_expr (c_call Z.ok_33 (hr.mono (by omega)) T.g_33 T.kp_33 T.b_33 tk (a_cons (a_sh (vs 3)) (a_cons (a_sh (vs 2)) a_nil)))) (s_cons (s_ret (c_meth (mt_5 T Z) (hr.mono (by omega)) tk (a_sh (vs 3)) (a_cons (a_sh (vs 1)) (a_cons (a_sh (vs 2)) a_nil)))) s_nil))))
theorem sc_39 : FnScope ["ring", "one", "other", "by"] ["ring", "one", "other"] (defScope t_39) := ⟨rfl, rfl, rfl, by decide +kernel, rfl, by decide +kernel, by decide +kernel⟩
theorem f_39 (T : Tx P K mg t fi) (Z : AllOk P w K mg base t n) : FnD P w K mg base (gx K t) (callP pr (n + 1)) (2 * (n + 1)) 39 t.a39 t.d39 ["ring", "one", "other"] := by
  obtain ⟨oc, od, kV, doc, pm, an, cdv, ct, osl, e, lk, hcd⟩ := T.F_39.ex
  rw [e] at lk ⊢
  refine fnD_of (p := pr) (df := d_39) (k := 2 * n + 1) lk hcd sc_39 rfl rfl rfl fun A outer s H E hr => ?_
  have tk := takes_of (X := cxOf (L2.CX P w) P w K mg base ["ring", "one", "other", "by"] "divides" (defScope t_39) t.a39 cdv A outer s H E) (E := E) rfl rfl rfl rfl
  exact (s_cons (ss 3 sc_39.nd (c_call Z.ok_26 (hr.mono (by omega)) T.g_26 T.kp_26 T.b_26 tk (a_cons (a_sh (vs 0)) a_nil))) (s_cons (s_expr (c_call Z.ok_28 (hr.mono (by omega)) T.g_28 T.kp_28 T.b_28 tk (a_cons (a_sh (vs 3)) (a_cons (a_sh (vs 1)) (a_cons (a_sh (vs 2)) a_nil))))) (s_cons (s_ret (c_call Z.ok_4 (hr.mono (by omega)) T.g_4 T.kp_4 T.b_4 tk (a_cons (a_sh (vs 3)) (a_cons (a_sh (vs 1)) (a_cons (a_sh (vs 2)) a_nil))))) s_nil)))
theorem sc_40 : FnScope ["script", "k", "cell", "blend", "one", "begin"] ["script", "k"] (defScope t_40) := ⟨rfl, rfl, rfl, by decide +kernel, rfl, by decide +kernel, by decide +kernel⟩
theorem f_40 (T : Tx P K mg t fi) (Z : AllOk P w K mg base t n) : FnD P w K mg base (gx K t) (callP pr (n + 1)) (2 * (n + 1)) 40 t.a40 t.d40 ["script", "k"] := by
  obtain ⟨oc, od, kV, doc, pm, an, cdv, ct, osl, e, lk, hcd⟩ := T.F_40.ex
  rw [e] at lk ⊢
  refine fnD_of (p := pr) (df := d_40) (k := 2 * n + 1) lk hcd sc_40 rfl rfl rfl fun A outer s H E hr => ?_
  have tk := takes_of (X := cxOf (L2.CX P w) P w K mg base ["script", "k", "cell", "blend", "one", "begin"] "_law_spring" (defScope t_40) t.a40 cdv A outer s H E) (E := E) rfl rfl rfl rfl
  exact (s_cons (ss 2 sc_40.nd (c_ite (t_cmp (od_lt) (vk 1) (pk_of (c_biB (bd_len rfl) T.z_len (p_cons (vk 0) p_nil)))) (c_biT (bd_int) T.z_int (p_cons (pk_of (c_idx rfl (vk 0) (vk 1))) p_nil)) (c_bin (od_add rfl) (pk_of (c_int)) (pk_of (c_bin (od_mul rfl) (pk_of (c_int)) (vk 1)))))) (s_cons (ss 3 sc_40.nd (c_bin (od_add rfl) (pk_of (c_int)) (pk_of (c_bin (od_mul rfl) (pk_of (c_int)) (pk_of (c_biB (bd_len rfl) T.z_len (p_cons (vk 0) p_nil))))))) (s_cons (s_for (passes_of rfl) rfl (it_seq rfl (vs 0)) (gn 4 sc_40.nd) (s_cons (ss 3 sc_40.nd (c_bin (od_mod) (pk_of (c_biT (bd_int) T.z_int (p_cons (pk_of (c_bin (od_add rfl) (pk_of (c_bin (od_mul rfl) (vk 3) (pk_of (c_int)))) (pk_of (c_bin (od_mod) (pk_of (c_biT (bd_int) T.z_int (p_cons (vk 4) p_nil))) (pk_of (c_bin (od_add rfl) (pk_of (c_bin (od_pow) (pk_of (c_int)) (pk_of (c_int)))) (pk_of (c_int)))))))) p_nil))) (pk_of (c_bin (od_add rfl) (pk_of (c_bin (od_pow) (pk_of (c_int)) (pk_of (c_int)))) (pk_of (c_int)))))) s_nil)) (s_cons (ss 5 sc_40.nd (c_bin (od_mod) (pk_of (c_biT (bd_int) T.z_int (p_cons (pk_of (c_bin (od_add rfl) (pk_of (c_bin (od_add rfl) (pk_of (c_bin (od_add rfl) (pk_of (c_bin (od_mul rfl) (pk_of (c_biB (bd_abs) T.z_abs (p_cons (vk 2) p_nil))) (pk_of (c_int)))) (pk_of (c_bin (od_mul rfl) (vk 3) (pk_of (c_int)))))) (pk_of (c_bin (od_mul rfl) (pk_of (c_int)) (pk_of (c_biT (bd_int) T.z_int (p_cons (pk_of (c_cmp (od_lt) (vk 2) (pk_of (c_int)))) p_nil))))))) (pk_of (c_bin (od_mul rfl) (pk_of (c_int)) (vk 1))))) p_nil))) (pk_of (c_bin (od_add rfl) (pk_of (c_bin (od_pow) (pk_of (c_int)) (pk_of (c_int)))) (pk_of (c_int)))))) (s_cons (s_ret (c_lst (l_cons (c_biB (bd_max rfl) T.z_max (p_cons (pk_of (c_int)) (p_cons (pk_of (c_bin (od_sub) (pk_of (c_biB (bd_abs) T.z_abs (p_cons (vk 2) p_nil))) (pk_of (c_bin (od_pow) (pk_of (c_int)) (pk_of (c_int)))))) p_nil))) (l_cons (vs 5) (l_cons (c_int) l_nil))))) s_nil)))))
theorem sc_41 : FnScope ["spring", "many", "digit", "turn", "blend"] ["spring", "many"] (defScope t_41) := ⟨rfl, rfl, rfl, by decide +kernel, rfl, by decide +kernel, by decide +kernel⟩
theorem f_41 (T : Tx P K mg t fi) (Z : AllOk P w K mg base t n) : FnD P w K mg base (gx K t) (callP pr (n + 1)) (2 * (n + 1)) 41 t.a41 t.d41 ["spring", "many"] := by
  obtain ⟨oc, od, kV, doc, pm, an, cdv, ct, osl, e, lk, hcd⟩ := T.F_41.ex
  rw [e] at lk ⊢
  refine fnD_of (p := pr) (df := d_41) (k := 2 * n + 1) lk hcd sc_41 rfl rfl rfl fun A outer s H E hr => ?_
  have tk := takes_of (X := cxOf (L2.CX P w) P w K mg base ["spring", "many", "digit", "turn", "blend"] "_law_take" (defScope t_41) t.a41 cdv A outer s H E) (E := E) rfl rfl rfl rfl
  exact (s_cons (s_if (t_cmp (od_gt) (pk_of (c_idx rfl (vk 0) (pk_of (c_int)))) (pk_of (c_int))) (s_cons (ss 2 sc_41.nd (c_bin (od_mod) (pk_of (c_biT (bd_int) T.z_int (p_cons (pk_of (c_idx rfl (vk 0) (pk_of (c_int)))) p_nil))) (vk 1))) (s_cons (s_setIx (pv 0) (c_int) (c_bin (od_fdiv) (pk_of (c_idx rfl (vk 0) (pk_of (c_int)))) (vk 1))) (s_cons (s_ret (vm 2)) s_nil))) s_nil) (s_cons (s_setIx (pv 0) (c_int) (c_bin (od_add rfl) (pk_of (c_idx rfl (vk 0) (pk_of (c_int)))) (pk_of (c_int)))) (s_cons (ss 3 sc_41.nd (c_idx rfl (vk 0) (pk_of (c_int)))) (s_cons (ss 4 sc_41.nd (c_bin (od_mod) (pk_of (c_biT (bd_int) T.z_int (p_cons (pk_of (c_bin (od_add rfl) (pk_of (c_bin (od_add rfl) (pk_of (c_bin (od_mul rfl) (pk_of (c_bin (od_mul rfl) (pk_of (c_bin (od_add rfl) (pk_of (c_idx rfl (vk 0) (pk_of (c_int)))) (pk_of (c_int)))) (pk_of (c_bin (od_add rfl) (vk 3) (pk_of (c_int)))))) (pk_of (c_int)))) (pk_of (c_bin (od_mul rfl) (pk_of (c_bin (od_mul rfl) (pk_of (c_bin (od_mul rfl) (vk 3) (vk 3))) (vk 3))) (pk_of (c_int)))))) (pk_of (c_int)))) p_nil))) (pk_of (c_bin (od_add rfl) (pk_of (c_bin (od_pow) (pk_of (c_int)) (pk_of (c_int)))) (pk_of (c_int)))))) (s_cons (ss 4 sc_41.nd (c_bin (od_mod) (pk_of (c_biT (bd_int) T.z_int (p_cons (pk_of (c_bin (od_add rfl) (pk_of (c_bin (od_add rfl) (pk_of (c_bin (od_mul rfl) (vk 4) (vk 4))) (pk_of (c_bin (od_mul rfl) (pk_of (c_idx rfl (vk 0) (pk_of (c_int)))) (pk_of (c_int)))))) (vk 3))) p_nil))) (pk_of (c_bin (od_add rfl) (pk_of (c_bin (od_pow) (pk_of (c_int)) (pk_of (c_int)))) (pk_of (c_int)))))) (s_cons (ss 4 sc_41.nd (c_bin (od_mod) (pk_of (c_biT (bd_int) T.z_int (p_cons (pk_of (c_bin (od_add rfl) (pk_of (c_bin (od_mul rfl) (pk_of (c_bin (od_mul rfl) (vk 4) (vk 4))) (pk_of (c_int)))) (pk_of (c_bin (od_mul rfl) (vk 4) (pk_of (c_int)))))) p_nil))) (pk_of (c_bin (od_add rfl) (pk_of (c_bin (od_pow) (pk_of (c_int)) (pk_of (c_int)))) (pk_of (c_int)))))) (s_cons (s_ret (c_bin (od_mod) (pk_of (c_biT (bd_int) T.z_int (p_cons (pk_of (c_bin (od_fdiv) (vk 4) (pk_of (c_int)))) p_nil))) (vk 1))) s_nil)))))))
theorem sc_42 : FnScope ["spring"] ["spring"] (defScope t_42) := ⟨rfl, rfl, rfl, by decide +kernel, rfl, by decide +kernel, by decide +kernel⟩
theorem f_42 (T : Tx P K mg t fi) (Z : AllOk P w K mg base t n) : FnD P w K mg base (gx K t) (callP pr (n + 1)) (2 * (n + 1)) 42 t.a42 t.d42 ["spring"] := by
  obtain ⟨oc, od, kV, doc, pm, an, cdv, ct, osl, e, lk, hcd⟩ := T.F_42.ex
  rw [e] at lk ⊢
  refine fnD_of (p := pr) (df := d_42) (k := 2 * n + 1) lk hcd sc_42 rfl rfl rfl fun A outer s H E hr => ?_
  have tk := takes_of (X := cxOf (L2.CX P w) P w K mg base ["spring"] "_law_ring" (defScope t_42) t.a42 cdv A outer s H E) (E := E) rfl rfl rfl rfl
  exact (s_cons (s_ret (c_idx rfl (pk_of (c_lst (l_cons (c_tup (l_cons (c_str) l_nil)) (l_cons (c_tup (l_cons (c_str) (l_cons (c_int) l_nil))) (l_cons (c_tup (l_cons (c_str) (l_cons (c_int) l_nil))) (l_cons (c_tup (l_cons (c_str) (l_cons (c_int) l_nil))) l_nil)))))) (pk_of (c_call Z.ok_41 (hr.mono (by omega)) T.g_41 T.kp_41 T.b_41 tk (a_cons (a_io (pv 0)) (a_cons (a_sh (c_int)) a_nil)))))) s_nil)
theorem sc_43 : FnScope ["p", "row", "found", "k", "one"] ["p", "row"] (defScope t_43) := ⟨rfl, rfl, rfl, by decide +kernel, rfl, by decide +kernel, by decide +kernel⟩
theorem f_43 (T : Tx P K mg t fi) (Z : AllOk P w K mg base t n) : FnD P w K mg base (gx K t) (callP pr (n + 1)) (2 * (n + 1)) 43 t.a43 t.d43 ["p", "row"] := by
  obtain ⟨oc, od, kV, doc, pm, an, cdv, ct, osl, e, lk, hcd⟩ := T.F_43.ex
  rw [e] at lk ⊢
  refine fnD_of (p := pr) (df := d_43) (k := 2 * n + 1) lk hcd sc_43 rfl rfl rfl fun A outer s H E hr => ?_
  have tk := takes_of (X := cxOf (L2.CX P w) P w K mg base ["p", "row", "found", "k", "one"] "_law_cut" (defScope t_43) t.a43 cdv A outer s H E) (E := E) rfl rfl rfl rfl
  exact (s_cons (s_setLc (own := [(("one" : Str), 4)]) rfl sc_43.nd rfl rfl rfl (it_seq rfl (vs 1)) (blkOk_by (by rfl)) (fun _ _ _ _ _ => gn 4 sc_43.nd) (fun _ _ _ _ _ => ts_nil) (fun _ _ _ _ _ => c_bin (od_mod) (pk_of (c_biT (bd_int) T.z_int (p_cons (vk 4) p_nil))) (vk 0)) (has_sub (by decide))) (s_cons (s_for (passes_of rfl) rfl (it_rng1 T.z_range (l_cons (c_biB (bd_len rfl) T.z_len (p_cons (vk 1) p_nil)) l_nil)) (gn 3 sc_43.nd) (s_cons (s_if (t_bool (t_and (t_cmp (od_gt) (pk_of (c_biB (bd_len rfl) T.z_len (p_cons (vk 2) p_nil))) (pk_of (c_int))) (t_and1 (op := .And) (t_cmp (od_eq rfl hr.u64) (pk_of (c_idx rfl (vk 2) (pk_of (c_neg (pk_of (c_int)))))) (pk_of (c_int)))))) (s_cons (ss 2 sc_43.nd (c_slc rfl (vk 2) o_none (o_some (c_neg (pk_of (c_int)))))) s_nil) s_nil) s_nil)) (s_cons (s_ret (c_biT (bd_tuple rfl) T.z_tuple (p_cons (vk 2) p_nil))) s_nil)))
theorem sc_44 : FnScope ["ring", "one", "other", "many", "first", "second", "k"] ["ring", "one", "other"] (defScope t_44) := ⟨rfl, rfl, rfl, by decide +kernel, rfl, by decide +kernel, by decide +kernel⟩
theorem f_44 (T : Tx P K mg t fi) (Z : AllOk P w K mg base t n) : FnD P w K mg base (gx K t) (callP pr (n + 1)) (2 * (n + 1)) 44 t.a44 t.d44 ["ring", "one", "other"] := by
  obtain ⟨oc, od, kV, doc, pm, an, cdv, ct, osl, e, lk, hcd⟩ := T.F_44.ex
  rw [e] at lk ⊢
  refine fnD_of (p := pr) (df := d_44) (k := 2 * n + 1) lk hcd sc_44 rfl rfl rfl fun A outer s H E hr => ?_
  have tk := takes_of (X := cxOf (L2.CX P w) P w K mg base ["ring", "one", "other", "many", "first", "second", "k"] "_law_plus" (defScope t_44) t.a44 cdv A outer s H E) (E := E) rfl rfl rfl rfl
  exact (s_cons (s_if (t_cmp (od_eq rfl hr.u64) (pk_of (c_idx rfl (vk 0) (pk_of (c_int)))) (pk_of (c_str))) (s_cons (s_ret (c_bin (od_add rfl) (vk 1) (vk 2))) s_nil) s_nil) (s_cons (ss 3 sc_44.nd (c_biB (bd_max rfl) T.z_max (p_cons (pk_of (c_biB (bd_len rfl) T.z_len (p_cons (vk 1) p_nil))) (p_cons (pk_of (c_biB (bd_len rfl) T.z_len (p_cons (vk 2) p_nil))) p_nil)))) (s_cons (s_unp (c_tup (l_cons (c_bin (od_add rfl) (pk_of (c_biT (bd_list rfl) T.z_list (p_cons (vk 1) p_nil))) (pk_of (c_bin (od_mul rfl) (pk_of (c_lst (l_cons (c_int) l_nil))) (pk_of (c_bin (od_sub) (vk 3) (pk_of (c_biB (bd_len rfl) T.z_len (p_cons (vk 1) p_nil)))))))) (l_cons (c_bin (od_add rfl) (pk_of (c_biT (bd_list rfl) T.z_list (p_cons (vk 2) p_nil))) (pk_of (c_bin (od_mul rfl) (pk_of (c_lst (l_cons (c_int) l_nil))) (pk_of (c_bin (od_sub) (vk 3) (pk_of (c_biB (bd_len rfl) T.z_len (p_cons (vk 2) p_nil)))))))) l_nil))) (g_tp rfl rfl (gs_cons (gn 4 sc_44.nd) (gs_cons (gn 5 sc_44.nd) gs_nil)))) (s_cons (s_ret (c_call Z.ok_43 (hr.mono (by omega)) T.g_43 T.kp_43 T.b_43 tk (a_cons (a_sh (c_idx rfl (vk 0) (pk_of (c_int)))) (a_cons (a_sh (c_lc (own := [(("k" : Str), 6)]) rfl sc_44.nd (it_rng1 T.z_range (l_cons (vs 3) l_nil)) (blkOk_by (by rfl)) (fun _ _ _ _ _ => gn 6 sc_44.nd) (fun _ _ _ _ _ => ts_nil) (fun _ _ _ _ _ => c_bin (od_add rfl) (pk_of (c_idx rfl (vk 4) (vk 6))) (pk_of (c_idx rfl (vk 5) (vk 6)))) (has_sub (by decide)))) a_nil)))) s_nil))))
theorem sc_45 : FnScope ["ring", "one", "other", "found", "i", "k"] ["ring", "one", "other"] (defScope t_45) := ⟨rfl, rfl, rfl, by decide +kernel, rfl, by decide +kernel, by decide +kernel⟩
theorem f_45 (T : Tx P K mg t fi) (Z : AllOk P w K mg base t n) : FnD P w K mg base (gx K t) (callP pr (n + 1)) (2 * (n + 1)) 45 t.a45 t.d45 ["ring", "one", "other"] := by
  obtain ⟨oc, od, kV, doc, pm, an, cdv, ct, osl, e, lk, hcd⟩ := T.F_45.ex
  rw [e] at lk ⊢
  refine fnD_of (p := pr) (df := d_45) (k := 2 * n + 1) lk hcd sc_45 rfl rfl rfl fun A outer s H E hr => ?_
  have tk := takes_of (X := cxOf (L2.CX P w) P w K mg base ["ring", "one", "other", "found", "i", "k"] "_law_times" (defScope t_45) t.a45 cdv A outer s H E) (E := E) rfl rfl rfl rfl
  exact (s_cons (s_if (t_cmp (od_eq rfl hr.u64) (pk_of (c_idx rfl (vk 0) (pk_of (c_int)))) (pk_of (c_str))) (s_cons (s_ret (c_bin (od_mul rfl) (vk 1) (vk 2))) s_nil) s_nil) (s_cons (ss 3 sc_45.nd (c_bin (od_mul rfl) (pk_of (c_lst (l_cons (c_int) l_nil))) (pk_of (c_bin (od_add rfl) (pk_of (c_biB (bd_len rfl) T.z_len (p_cons (vk 1) p_nil))) (pk_of (c_biB (bd_len rfl) T.z_len (p_cons (vk 2) p_nil))))))) (s_cons (s_for (passes_of rfl) rfl (it_rng1 T.z_range (l_cons (c_biB (bd_len rfl) T.z_len (p_cons (vk 1) p_nil)) l_nil)) (gn 4 sc_45.nd) (s_cons (s_for (passes_of rfl) rfl (it_rng1 T.z_range (l_cons (c_biB (bd_len rfl) T.z_len (p_cons (vk 2) p_nil)) l_nil)) (gn 5 sc_45.nd) (s_cons (s_setIx (pv 3) (c_bin (od_add rfl) (vk 4) (vk 5)) (c_bin (od_add rfl) (pk_of (c_idx rfl (vk 3) (pk_of (c_bin (od_add rfl) (vk 4) (vk 5))))) (pk_of (c_bin (od_mul rfl) (pk_of (c_idx rfl (vk 1) (vk 4))) (pk_of (c_idx rfl (vk 2) (vk 5))))))) s_nil)) s_nil)) (s_cons (s_ret (c_call Z.ok_43 (hr.mono (by omega)) T.g_43 T.kp_43 T.b_43 tk (a_cons (a_sh (c_idx rfl (vk 0) (pk_of (c_int)))) (a_cons (a_sh (vs 3)) a_nil)))) s_nil))))
theorem sc_46 : FnScope ["ring", "one", "part"] ["ring", "one"] (defScope t_46) := ⟨rfl, rfl, rfl, by decide +kernel, rfl, by decide +kernel, by decide +kernel⟩
theorem f_46 (T : Tx P K mg t fi) (Z : AllOk P w K mg base t n) : FnD P w K mg base (gx K t) (callP pr (n + 1)) (2 * (n + 1)) 46 t.a46 t.d46 ["ring", "one"] := by
  obtain ⟨oc, od, kV, doc, pm, an, cdv, ct, osl, e, lk, hcd⟩ := T.F_46.ex
  rw [e] at lk ⊢
  refine fnD_of (p := pr) (df := d_46) (k := 2 * n + 1) lk hcd sc_46 rfl rfl rfl fun A outer s H E hr => ?_
  have tk := takes_of (X := cxOf (L2.CX P w) P w K mg base ["ring", "one", "part"] "_law_neg" (defScope t_46) t.a46 cdv A outer s H E) (E := E) rfl rfl rfl rfl
  exact (s_cons (s_ret (c_ite (t_cmp (od_eq rfl hr.u64) (pk_of (c_idx rfl (vk 0) (pk_of (c_int)))) (pk_of (c_str))) (c_neg (vk 1)) (c_call Z.ok_43 (hr.mono (by omega)) T.g_43 T.kp_43 T.b_43 tk (a_cons (a_sh (c_idx rfl (vk 0) (pk_of (c_int)))) (a_cons (a_sh (c_lc (own := [(("part" : Str), 2)]) rfl sc_46.nd (it_seq rfl (vs 1)) (blkOk_by (by rfl)) (fun _ _ _ _ _ => gn 2 sc_46.nd) (fun _ _ _ _ _ => ts_nil) (fun _ _ _ _ _ => c_neg (vk 2)) (has_sub (by decide)))) a_nil))))) s_nil)
theorem sc_47 : FnScope ["ring"] ["ring"] (defScope t_47) := ⟨rfl, rfl, rfl, by decide +kernel, rfl, by decide +kernel, by decide +kernel⟩
theorem f_47 (T : Tx P K mg t fi) (Z : AllOk P w K mg base t n) : FnD P w K mg base (gx K t) (callP pr (n + 1)) (2 * (n + 1)) 47 t.a47 t.d47 ["ring"] := by
  obtain ⟨oc, od, kV, doc, pm, an, cdv, ct, osl, e, lk, hcd⟩ := T.F_47.ex
  rw [e] at lk ⊢
  refine fnD_of (p := pr) (df := d_47) (k := 2 * n + 1) lk hcd sc_47 rfl rfl rfl fun A outer s H E hr => ?_
  have tk := takes_of (X := cxOf (L2.CX P w) P w K mg base ["ring"] "_law_zero" (defScope t_47) t.a47 cdv A outer s H E) (E := E) rfl rfl rfl rfl
  exact (s_cons (s_ret (c_ite (t_cmp (od_eq rfl hr.u64) (pk_of (c_idx rfl (vk 0) (pk_of (c_int)))) (pk_of (c_str))) (c_int) (c_tup l_nil))) s_nil)
theorem sc_48 : FnScope ["ring"] ["ring"] (defScope t_48) := ⟨rfl, rfl, rfl, by decide +kernel, rfl, by decide +kernel, by decide +kernel⟩
theorem f_48 (T : Tx P K mg t fi) (Z : AllOk P w K mg base t n) : FnD P w K mg base (gx K t) (callP pr (n + 1)) (2 * (n + 1)) 48 t.a48 t.d48 ["ring"] := by
  obtain ⟨oc, od, kV, doc, pm, an, cdv, ct, osl, e, lk, hcd⟩ := T.F_48.ex
  rw [e] at lk ⊢
  refine fnD_of (p := pr) (df := d_48) (k := 2 * n + 1) lk hcd sc_48 rfl rfl rfl fun A outer s H E hr => ?_
  have tk := takes_of (X := cxOf (L2.CX P w) P w K mg base ["ring"] "_law_unit" (defScope t_48) t.a48 cdv A outer s H E) (E := E) rfl rfl rfl rfl
  exact (s_cons (s_ret (c_ite (t_cmp (od_eq rfl hr.u64) (pk_of (c_idx rfl (vk 0) (pk_of (c_int)))) (pk_of (c_str))) (c_int) (c_tup (l_cons (c_int) l_nil)))) s_nil)
theorem sc_49 : FnScope ["spring", "ring", "wide", "most", "row", "k"] ["spring", "ring", "wide", "most"] (defScope t_49) := ⟨rfl, rfl, rfl, by decide +kernel, rfl, by decide +kernel, by decide +kernel⟩
theorem f_49 (T : Tx P K mg t fi) (Z : AllOk P w K mg base t n) : FnD P w K mg base (gx K t) (callP pr (n + 1)) (2 * (n + 1)) 49 t.a49 t.d49 ["spring", "ring", "wide", "most"] := by
  obtain ⟨oc, od, kV, doc, pm, an, cdv, ct, osl, e, lk, hcd⟩ := T.F_49.ex
  rw [e] at lk ⊢
  refine fnD_of (p := pr) (df := d_49) (k := 2 * n + 1) lk hcd sc_49 rfl rfl rfl fun A outer s H E hr => ?_
  have tk := takes_of (X := cxOf (L2.CX P w) P w K mg base ["spring", "ring", "wide", "most", "row", "k"] "_law_element" (defScope t_49) t.a49 cdv A outer s H E) (E := E) rfl rfl rfl rfl
  exact (s_cons (s_if (t_cmp (od_eq rfl hr.u64) (pk_of (c_idx rfl (vk 1) (pk_of (c_int)))) (pk_of (c_str))) (s_cons (s_ret (c_bin (od_sub) (pk_of (c_call Z.ok_41 (hr.mono (by omega)) T.g_41 T.kp_41 T.b_41 tk (a_cons (a_io (pv 0)) (a_cons (a_sh (c_bin (od_add rfl) (pk_of (c_bin (od_mul rfl) (pk_of (c_int)) (vk 2))) (pk_of (c_int)))) a_nil)))) (vk 2))) s_nil) s_nil) (s_cons (ss 4 sc_49.nd (c_lst l_nil)) (s_cons (s_for (passes_of rfl) rfl (it_rng1 T.z_range (l_cons (c_call Z.ok_41 (hr.mono (by omega)) T.g_41 T.kp_41 T.b_41 tk (a_cons (a_io (pv 0)) (a_cons (a_sh (c_bin (od_add rfl) (vk 3) (pk_of (c_int)))) a_nil))) l_nil)) (gn 5 sc_49.nd) (s_cons (s_app (pv 4) (c_call Z.ok_41 (hr.mono (by omega)) T.g_41 T.kp_41 T.b_41 tk (a_cons (a_io (pv 0)) (a_cons (a_sh (c_idx rfl (vk 1) (pk_of (c_int)))) a_nil)))) s_nil)) (s_cons (s_ret (c_call Z.ok_43 (hr.mono (by omega)) T.g_43 T.kp_43 T.b_43 tk (a_cons (a_sh (c_idx rfl (vk 1) (pk_of (c_int)))) (a_cons (a_sh (vs 4)) a_nil)))) s_nil))))
theorem sc_50 : FnScope ["ring", "value", "one"] ["ring", "value"] (defScope t_50) := ⟨rfl, rfl, rfl, by decide +kernel, rfl, by decide +kernel, by decide +kernel⟩
theorem f_50 (T : Tx P K mg t fi) (Z : AllOk P w K mg base t n) : FnD P w K mg base (gx K t) (callP pr (n + 1)) (2 * (n + 1)) 50 t.a50 t.d50 ["ring", "value"] := by
  obtain ⟨oc, od, kV, doc, pm, an, cdv, ct, osl, e, lk, hcd⟩ := T.F_50.ex
  rw [e] at lk ⊢
  refine fnD_of (p := pr) (df := d_50) (k := 2 * n + 1) lk hcd sc_50 rfl rfl rfl fun A outer s H E hr => ?_
  have tk := takes_of (X := cxOf (L2.CX P w) P w K mg base ["ring", "value", "one"] "_law_is_element" (defScope t_50) t.a50 cdv A outer s H E) (E := E) rfl rfl rfl rfl
  exact (s_cons (s_if (t_cmp (od_eq rfl hr.u64) (pk_of (c_idx rfl (vk 0) (pk_of (c_int)))) (pk_of (c_str))) (s_cons (s_ret (c_and (pk_of (c_isi rfl (ty_b (t := .int) T.z_int (by decide +kernel) rfl) T.z_isinstance (vk 1))) (c_one (c_not (pk_of (c_isi rfl (ty_b (t := .bool) T.z_bool (by decide +kernel) rfl) T.z_isinstance (vk 1))))))) s_nil) s_nil) (s_cons (s_if (t_bool (t_or (t_not (t_val (pk_of (c_isi rfl (ty_b (t := .tuple) T.z_tuple (by decide +kernel) rfl) T.z_isinstance (vk 1))))) (t_or1 (op := .Or) (t_not (t_val (pk_of (c_biB (bd_all rfl) T.z_all (p_cons (pk_of (c_lc (own := [(("one" : Str), 2)]) rfl sc_50.nd (it_seq rfl (vs 1)) (blkOk_by (by rfl)) (fun _ _ _ _ _ => gn 2 sc_50.nd) (fun _ _ _ _ _ => ts_nil) (fun _ _ _ _ _ => c_and (pk_of (c_isi rfl (ty_b (t := .int) T.z_int (by decide +kernel) rfl) T.z_isinstance (vk 2))) (c_and (pk_of (c_not (pk_of (c_isi rfl (ty_b (t := .bool) T.z_bool (by decide +kernel) rfl) T.z_isinstance (vk 2))))) (c_one (c_chain (od_le) (od_lt) (pk_of (c_int)) (vk 2) (pk_of (c_idx rfl (vk 0) (pk_of (c_int)))))))) (has_sub (by decide)))) p_nil)))))))) (s_cons (s_ret (c_bl)) s_nil) s_nil) (s_cons (s_ret (c_or (pk_of (c_cmp (od_eq rfl hr.u64) (pk_of (c_biB (bd_len rfl) T.z_len (p_cons (vk 1) p_nil))) (pk_of (c_int)))) (c_one (c_cmp (od_ne rfl hr.u64) (pk_of (c_idx rfl (vk 1) (pk_of (c_neg (pk_of (c_int)))))) (pk_of (c_int)))))) s_nil)))
theorem sc_51 : FnScope ["ring", "rest", "other"] ["ring", "rest", "other"] (defScope t_51) := ⟨rfl, rfl, rfl, by decide +kernel, rfl, by decide +kernel, by decide +kernel⟩
theorem f_51 (T : Tx P K mg t fi) (Z : AllOk P w K mg base t n) : FnD P w K mg base (gx K t) (callP pr (n + 1)) (2 * (n + 1)) 51 t.a51 t.d51 ["ring", "rest", "other"] := by
  obtain ⟨oc, od, kV, doc, pm, an, cdv, ct, osl, e, lk, hcd⟩ := T.F_51.ex
  rw [e] at lk ⊢
  refine fnD_of (p := pr) (df := d_51) (k := 2 * n + 1) lk hcd sc_51 rfl rfl rfl fun A outer s H E hr => ?_
  have tk := takes_of (X := cxOf (L2.CX P w) P w K mg base ["ring", "rest", "other"] "_law_is_rest" (defScope t_51) t.a51 cdv A outer s H E) (E := E) rfl rfl rfl rfl
  exact (s_cons (s_if (t_not (t_val (pk_of (c_call Z.ok_50 (hr.mono (by omega)) T.g_50 T.kp_50 T.b_50 tk (a_cons (a_sh (vs 0)) (a_cons (a_sh (vs 1)) a_nil)))))) (s_cons (s_ret (c_bl)) s_nil) s_nil) (s_cons (s_ret (c_ite (t_cmp (od_eq rfl hr.u64) (pk_of (c_idx rfl (vk 0) (pk_of (c_int)))) (pk_of (c_str))) (c_chain (od_le) (od_lt) (pk_of (c_int)) (vk 1) (pk_of (c_biB (bd_abs) T.z_abs (p_cons (vk 2) p_nil)))) (c_cmp (od_lt) (pk_of (c_biB (bd_len rfl) T.z_len (p_cons (vk 1) p_nil))) (pk_of (c_biB (bd_len rfl) T.z_len (p_cons (vk 2) p_nil)))))) s_nil))
theorem sc_52 : FnScope ["which", "ring", "one", "other", "caught", "e", "kinds", "k"] ["which", "ring", "one", "other"] (defScope t_52) := ⟨rfl, rfl, rfl, by decide +kernel, rfl, by decide +kernel, by decide +kernel⟩
theorem f_52 (T : Tx P K mg t fi) (Z : AllOk P w K mg base t n) : FnD P w K mg base (gx K t) (callP pr (n + 1)) (2 * (n + 1)) 52 t.a52 t.d52 ["which", "ring", "one", "other"] := by
  obtain ⟨oc, od, kV, doc, pm, an, cdv, ct, osl, e, lk, hcd⟩ := T.F_52.ex
  rw [e] at lk ⊢
  refine fnD_of (p := pr) (df := d_52) (k := 2 * n + 1) lk hcd sc_52 rfl rfl rfl fun A outer s H E hr => ?_
  have tk := takes_of (X := cxOf (L2.CX P w) P w K mg base ["which", "ring", "one", "other", "caught", "e", "kinds", "k"] "_law_caught" (defScope t_52) t.a52 cdv A outer s H E) (E := E) rfl rfl rfl rfl
  exact (s_cons (ss 4 sc_52.nd (c_non)) (s_cons (s_try rfl rfl rfl sc_52.nd rfl rfl ⟨rfl, by decide, .inl T.mc_0⟩ tk (fun c b h => exm_of T h) (fun V pn xe tk1 hp1 => (s_cons (s_if (t_cmp (od_eq rfl hr.u64) (vk 0) (pk_of (c_int))) (s_cons (s_expr (c_call Z.ok_34 (hr.mono (by omega)) T.g_34 T.kp_34 T.b_34 tk1 (a_cons (a_sh (vs 1)) (a_cons (a_sh (vs 2)) (a_cons (a_sh (vs 3)) a_nil))))) s_nil) (s_cons (s_if (t_cmp (od_eq rfl hr.u64) (vk 0) (pk_of (c_int))) (s_cons (s_expr (c_callK0 Z.ok_35 (hr.mono (by omega)) T.g_35 T.kp_35 (bk_35_0_other_one_ring T) tk1 (k_cons (a_sh (vs 3)) (k_cons (a_sh (vs 2)) (k_cons (a_sh (vs 1)) k_nil))) rfl)) s_nil) (s_cons (s_if (t_cmp (od_eq rfl hr.u64) (vk 0) (pk_of (c_int))) (s_cons (s_expr (c_call Z.ok_36 (hr.mono (by omega)) T.g_36 T.kp_36 T.b_36 tk1 (a_cons (a_sh (vs 1)) (a_cons (a_sh (vs 2)) (a_cons (a_sh (vs 3)) a_nil))))) s_nil) (s_cons (s_if (t_cmp (od_eq rfl hr.u64) (vk 0) (pk_of (c_int))) (s_cons (s_expr (c_call Z.ok_38 (hr.mono (by omega)) T.g_38 T.kp_38 T.b_38 tk1 (a_cons (a_sh (vs 1)) (a_cons (a_sh (vs 2)) (a_cons (a_sh (vs 3)) a_nil))))) s_nil) (s_cons (s_if (t_cmp (od_eq rfl hr.u64) (vk 0) (pk_of (c_int))) (s_cons (s_expr (c_callK0 Z.ok_39 (hr.mono (by omega)) T.g_39 T.kp_39 (bk_39_0_ring_other_one T) tk1 (k_cons (a_sh (vs 1)) (k_cons (a_sh (vs 3)) (k_cons (a_sh (vs 2)) k_nil))) rfl)) s_nil) (s_cons (s_if (t_cmp (od_eq rfl hr.u64) (vk 0) (pk_of (c_int))) (s_cons (s_expr (c_call Z.ok_37 (hr.mono (by omega)) T.g_37 T.kp_37 T.b_37 tk1 (a_cons (a_sh (vs 1)) (a_cons (a_sh (vs 2)) (a_cons (a_sh (vs 3)) a_nil))))) s_nil) (s_cons (s_if (t_cmp (od_eq rfl hr.u64) (vk 0) (pk_of (c_int))) (s_cons (s_expr (c_call Z.ok_29 (hr.mono (by omega)) T.g_29 T.kp_29 T.b_29 tk1 (a_cons (a_sh (vs 1)) (a_cons (a_sh (vs 2)) a_nil)))) s_nil) (s_cons (s_if (t_cmp (od_eq rfl hr.u64) (vk 0) (pk_of (c_int))) (s_cons (s_expr (c_call Z.ok_30 (hr.mono (by omega)) T.g_30 T.kp_30 T.b_30 tk1 (a_cons (a_sh (vs 1)) a_nil))) s_nil) (s_cons (s_if (t_cmp (od_eq rfl hr.u64) (vk 0) (pk_of (c_int))) (s_cons (s_expr (c_callK0 Z.ok_31 (hr.mono (by omega)) T.g_31 T.kp_31 (bk_31_0_ring T) tk1 (k_cons (a_sh (vs 1)) k_nil) rfl)) s_nil) (s_cons (s_expr (c_call Z.ok_32 (hr.mono (by omega)) T.g_32 T.kp_32 T.b_32 tk1 (a_cons (a_sh (vs 1)) (a_cons (a_sh (c_int)) a_nil)))) s_nil)) s_nil)) s_nil)) s_nil)) s_nil)) s_nil)) s_nil)) s_nil)) s_nil)) s_nil)) (fun a pn => (s_cons (ss 4 sc_52.nd (vs 5)) s_nil))) (s_cons (s_if (t_cmp (od_is) (vk 4) (pk_of (c_non))) (s_cons (s_ret (c_non)) s_nil) s_nil) (s_cons (ss 6 sc_52.nd (c_lst (l_cons (c_isi rfl (ty_c T.mc_1 (fun c b h => isi_of T h)) T.z_isinstance (vk 4)) (l_cons (c_isi rfl (ty_c T.mc_3 (fun c b h => isi_of T h)) T.z_isinstance (vk 4)) (l_cons (c_isi rfl (ty_c T.mc_2 (fun c b h => isi_of T h)) T.z_isinstance (vk 4)) l_nil))))) (s_cons (s_ret (c_tup (l_cons (c_lc (own := [(("k" : Str), 7)]) rfl sc_52.nd (it_rng1 T.z_range (l_cons (c_int) l_nil)) (blkOk_by (by rfl)) (fun _ _ _ _ _ => gn 7 sc_52.nd) (fun _ _ _ _ _ => ts_one (t_val (pk_of (c_idx rfl (vk 6) (vk 7))))) (fun _ _ _ _ _ => vs 7) (has_sub (by decide))) (l_cons (c_biB (bd_repr rfl hr.gu hr.u100) T.z_repr (p_cons (pk_of (c_fld (fk_of T) rfl (vk 4))) p_nil)) l_nil)))) s_nil)))))
theorem sc_53 : FnScope ["spring", "ring", "one", "wrong", "bad", "value", "told", "which"] ["spring", "ring", "one"] (defScope t_53) := ⟨rfl, rfl, rfl, by decide +kernel, rfl, by decide +kernel, by decide +kernel⟩
theorem f_53 (T : Tx P K mg t fi) (Z : AllOk P w K mg base t n) : FnD P w K mg base (gx K t) (callP pr (n + 1)) (2 * (n + 1)) 53 t.a53 t.d53 ["spring", "ring", "one"] := by
  obtain ⟨oc, od, kV, doc, pm, an, cdv, ct, osl, e, lk, hcd⟩ := T.F_53.ex
  rw [e] at lk ⊢
  refine fnD_of (p := pr) (df := d_53) (k := 2 * n + 1) lk hcd sc_53 rfl rfl rfl fun A outer s H E hr => ?_
  have tk := takes_of (X := cxOf (L2.CX P w) P w K mg base ["spring", "ring", "one", "wrong", "bad", "value", "told", "which"] "_law_refused" (defScope t_53) t.a53 cdv A outer s H E) (E := E) rfl rfl rfl rfl
  exact (s_cons (ss 3 sc_53.nd (c_idx rfl (pk_of (c_lst (l_cons (c_non) (l_cons (c_tup (l_cons (c_str) (l_cons (c_int) l_nil))) (l_cons (c_lst (l_cons (c_str) l_nil)) (l_cons (c_tup (l_cons (c_str) l_nil)) (l_cons (c_tup (l_cons (c_str) (l_cons (c_bl) l_nil))) (l_cons (c_str) (l_cons (c_tup (l_cons (c_str) (l_cons (c_int) l_nil))) (l_cons (c_tup (l_cons (c_str) (l_cons (c_int) l_nil))) l_nil)))))))))) (pk_of (c_call Z.ok_41 (hr.mono (by omega)) T.g_41 T.kp_41 T.b_41 tk (a_cons (a_io (pv 0)) (a_cons (a_sh (c_int)) a_nil)))))) (s_cons (s_if (t_bool (t_or (t_cmp (od_ne rfl hr.u64) (pk_of (c_lc (own := [(("which" : Str), 7)]) rfl sc_53.nd (it_rng1 T.z_range (l_cons (c_int) l_nil)) (blkOk_by (by rfl)) (fun _ _ _ _ _ => gn 7 sc_53.nd) (fun _ _ _ _ _ => ts_nil) (fun _ _ _ _ _ => c_call Z.ok_52 (hr.mono (by omega)) T.g_52 T.kp_52 T.b_52 takes0 (a_cons (a_sh (vs 7)) (a_cons (a_sh (vs 3)) (a_cons (a_sh (c_non)) (a_cons (a_sh (c_neg (pk_of (c_int)))) a_nil))))) (has_sub (by decide)))) (pk_of (c_bin (od_mul rfl) (pk_of (c_lst (l_cons (c_tup (l_cons (c_lst (l_cons (c_int) l_nil)) (l_cons (c_biB (bd_repr rfl hr.gu hr.u100) T.z_repr (p_cons (vk 3) p_nil)) l_nil))) l_nil))) (pk_of (c_int))))) (t_or (t_cmp (od_isNot) (pk_of (c_call Z.ok_24 (hr.mono (by omega)) T.g_24 T.kp_24 T.b_24 tk (a_cons (a_sh (vs 3)) a_nil))) (pk_of (c_bl))) (t_or1 (op := .Or) (t_cmp (od_isNot) (pk_of (c_callK0 Z.ok_24 (hr.mono (by omega)) T.g_24 T.kp_24 (bk_24_0_value T) tk (k_cons (a_sh (vs 1)) k_nil) rfl)) (pk_of (c_bl))))))) (s_cons (s_ret (c_bl)) s_nil) s_nil) (s_cons (ss 4 sc_53.nd (c_ite (t_cmp (od_eq rfl hr.u64) (pk_of (c_idx rfl (vk 1) (pk_of (c_int)))) (pk_of (c_str))) (c_lst (l_cons (c_non) (l_cons (c_bl) (l_cons (c_str) (l_cons (c_tup (l_cons (c_int) (l_cons (c_int) l_nil))) (l_cons (c_lst (l_cons (c_int) l_nil)) (l_cons (c_tup (l_cons (c_bl) l_nil)) (l_cons (c_tup (l_cons (c_int) l_nil)) (l_cons (c_tup (l_cons (c_tup (l_cons (c_int) l_nil)) l_nil)) l_nil))))))))) (c_lst (l_cons (c_non) (l_cons (c_int) (l_cons (c_tup (l_cons (c_int) (l_cons (c_int) l_nil))) (l_cons (c_tup (l_cons (c_idx rfl (vk 1) (pk_of (c_int))) l_nil)) (l_cons (c_tup (l_cons (c_neg (pk_of (c_int))) l_nil)) (l_cons (c_lst (l_cons (c_int) l_nil)) (l_cons (c_tup (l_cons (c_bl) l_nil)) (l_cons (c_tup (l_cons (c_int) l_nil)) l_nil))))))))))) (s_cons (ss 5 sc_53.nd (c_idx rfl (vk 4) (pk_of (c_call Z.ok_41 (hr.mono (by omega)) T.g_41 T.kp_41 T.b_41 tk (a_cons (a_io (pv 0)) (a_cons (a_sh (c_int)) a_nil)))))) (s_cons (s_if (t_cmp (od_ne rfl hr.u64) (pk_of (c_lc (own := [(("which" : Str), 7)]) rfl sc_53.nd (it_rng1 T.z_range (l_cons (c_int) l_nil)) (blkOk_by (by rfl)) (fun _ _ _ _ _ => gn 7 sc_53.nd) (fun _ _ _ _ _ => ts_nil) (fun _ _ _ _ _ => c_call Z.ok_52 (hr.mono (by omega)) T.g_52 T.kp_52 T.b_52 takes0 (a_cons (a_sh (vs 7)) (a_cons (a_sh (vs 1)) (a_cons (a_sh (vs 5)) (a_cons (a_sh (c_neg (pk_of (c_int)))) a_nil))))) (has_sub (by decide)))) (pk_of (c_bin (od_mul rfl) (pk_of (c_lst (l_cons (c_tup (l_cons (c_lst (l_cons (c_int) l_nil)) (l_cons (c_biB (bd_repr rfl hr.gu hr.u100) T.z_repr (p_cons (vk 5) p_nil)) l_nil))) l_nil))) (pk_of (c_int))))) (s_cons (s_ret (c_bl)) s_nil) s_nil) (s_cons (s_if (t_bool (t_or (t_cmp (od_ne rfl hr.u64) (pk_of (c_lc (own := [(("which" : Str), 7)]) rfl sc_53.nd (it_rng1 T.z_range (l_cons (c_int) l_nil)) (blkOk_by (by rfl)) (fun _ _ _ _ _ => gn 7 sc_53.nd) (fun _ _ _ _ _ => ts_nil) (fun _ _ _ _ _ => c_call Z.ok_52 (hr.mono (by omega)) T.g_52 T.kp_52 T.b_52 takes0 (a_cons (a_sh (vs 7)) (a_cons (a_sh (vs 1)) (a_cons (a_sh (vs 2)) (a_cons (a_sh (vs 5)) a_nil))))) (has_sub (by decide)))) (pk_of (c_bin (od_mul rfl) (pk_of (c_lst (l_cons (c_tup (l_cons (c_lst (l_cons (c_int) l_nil)) (l_cons (c_biB (bd_repr rfl hr.gu hr.u100) T.z_repr (p_cons (vk 5) p_nil)) l_nil))) l_nil))) (pk_of (c_int))))) (t_or1 (op := .Or) (t_cmp (od_isNot) (pk_of (c_call Z.ok_29 (hr.mono (by omega)) T.g_29 T.kp_29 T.b_29 tk (a_cons (a_sh (vs 1)) (a_cons (a_sh (vs 5)) a_nil)))) (pk_of (c_bl)))))) (s_cons (s_ret (c_bl)) s_nil) s_nil) (s_cons (ss 6 sc_53.nd (c_lst (l_cons (c_call Z.ok_52 (hr.mono (by omega)) T.g_52 T.kp_52 T.b_52 tk (a_cons (a_sh (c_int)) (a_cons (a_sh (vs 1)) (a_cons (a_sh (vs 2)) (a_cons (a_sh (c_call Z.ok_47 (hr.mono (by omega)) T.g_47 T.kp_47 T.b_47 tk (a_cons (a_sh (vs 1)) a_nil))) a_nil))))) (l_cons (c_call Z.ok_52 (hr.mono (by omega)) T.g_52 T.kp_52 T.b_52 tk (a_cons (a_sh (c_int)) (a_cons (a_sh (vs 1)) (a_cons (a_sh (vs 2)) (a_cons (a_sh (c_neg (pk_of (c_int)))) a_nil))))) (l_cons (c_call Z.ok_52 (hr.mono (by omega)) T.g_52 T.kp_52 T.b_52 tk (a_cons (a_sh (c_int)) (a_cons (a_sh (vs 1)) (a_cons (a_sh (vs 2)) (a_cons (a_sh (c_int)) a_nil))))) l_nil))))) (s_cons (s_ret (c_and (pk_of (c_cmp (od_eq rfl hr.u64) (vk 6) (pk_of (c_lst (l_cons (c_tup (l_cons (c_lst (l_cons (c_int) l_nil)) (l_cons (c_biB (bd_repr rfl hr.gu hr.u100) T.z_repr (p_cons (pk_of (c_call Z.ok_47 (hr.mono (by omega)) T.g_47 T.kp_47 T.b_47 tk (a_cons (a_sh (vs 1)) a_nil))) p_nil)) l_nil))) (l_cons (c_tup (l_cons (c_lst (l_cons (c_int) l_nil)) (l_cons (c_str) l_nil))) (l_cons (c_tup (l_cons (c_lst (l_cons (c_int) l_nil)) (l_cons (c_str) l_nil))) l_nil))))))) (c_one (c_cmp (od_is) (pk_of (c_callK0 Z.ok_29 (hr.mono (by omega)) T.g_29 T.kp_29 (bk_29_0_value_ring T) tk (k_cons (a_sh (vs 2)) (k_cons (a_sh (vs 1)) k_nil)) rfl)) (pk_of (c_bl)))))) s_nil))))))))
theorem sc_54 : FnScope ["spring", "ring", "wide", "most", "one", "other", "k", "told", "total", "many", "due", "turn", "quotient", "rest", "more", "whole", "nothing"] ["spring"] (defScope t_54) := ⟨rfl, rfl, rfl, by decide +kernel, rfl, by decide +kernel, by decide +kernel⟩
theorem f_54 (T : Tx P K mg t fi) (Z : AllOk P w K mg base t n) : FnD P w K mg base (gx K t) (callP pr (n + 1)) (2 * (n + 1)) 54 t.a54 t.d54 ["spring"] := by
  obtain ⟨oc, od, kV, doc, pm, an, cdv, ct, osl, e, lk, hcd⟩ := T.F_54.ex
  rw [e] at lk ⊢
  refine fnD_of (p := pr) (df := d_54) (k := 2 * n + 1) lk hcd sc_54 rfl rfl rfl fun A outer s H E hr => ?_
  have tk := takes_of (X := cxOf (L2.CX P w) P w K mg base ["spring", "ring", "wide", "most", "one", "other", "k", "told", "total", "many", "due", "turn", "quotient", "rest", "more", "whole", "nothing"] "_law_right" (defScope t_54) t.a54 cdv A outer s H E) (E := E) rfl rfl rfl rfl
  exact (s_cons (ss 1 sc_54.nd (c_call Z.ok_42 (hr.mono (by omega)) T.g_42 T.kp_42 T.b_42 tk (a_cons (a_io (pv 0)) a_nil))) (s_cons (s_unp (c_idx rfl (pk_of (c_lst (l_cons (c_tup (l_cons (c_int) (l_cons (c_int) l_nil))) (l_cons (c_tup (l_cons (c_int) (l_cons (c_int) l_nil))) (l_cons (c_tup (l_cons (c_bin (od_pow) (pk_of (c_int)) (pk_of (c_int))) (l_cons (c_int) l_nil))) l_nil))))) (pk_of (c_call Z.ok_41 (hr.mono (by omega)) T.g_41 T.kp_41 T.b_41 tk (a_cons (a_io (pv 0)) (a_cons (a_sh (c_int)) a_nil))))) (g_tp rfl rfl (gs_cons (gn 2 sc_54.nd) (gs_cons (gn 3 sc_54.nd) gs_nil)))) (s_cons (s_par rfl sc_54.nd rfl rfl (by decide) rfl rfl (l_cons (c_call Z.ok_49 (hr.mono (by omega)) T.g_49 T.kp_49 T.b_49 tk (a_cons (a_io (pv 0)) (a_cons (a_sh (vs 1)) (a_cons (a_sh (vs 2)) (a_cons (a_sh (vs 3)) a_nil))))) (l_cons (c_call Z.ok_49 (hr.mono (by omega)) T.g_49 T.kp_49 T.b_49 tk (a_cons (a_io (pv 0)) (a_cons (a_sh (vs 1)) (a_cons (a_sh (vs 2)) (a_cons (a_sh (vs 3)) a_nil))))) l_nil))) (s_cons (s_if (t_cmp (od_ne rfl hr.u64) (pk_of (c_biB (bd_repr rfl hr.gu hr.u100) T.z_repr (p_cons (pk_of (c_lst (l_cons (c_call Z.ok_30 (hr.mono (by omega)) T.g_30 T.kp_30 T.b_30 tk (a_cons (a_sh (vs 1)) a_nil)) (l_cons (c_call Z.ok_31 (hr.mono (by omega)) T.g_31 T.kp_31 T.b_31 tk (a_cons (a_sh (vs 1)) a_nil)) l_nil)))) p_nil))) (pk_of (c_biB (bd_repr rfl hr.gu hr.u100) T.z_repr (p_cons (pk_of (c_lst (l_cons (c_call Z.ok_47 (hr.mono (by omega)) T.g_47 T.kp_47 T.b_47 tk (a_cons (a_sh (vs 1)) a_nil)) (l_cons (c_call Z.ok_48 (hr.mono (by omega)) T.g_48 T.kp_48 T.b_48 tk (a_cons (a_sh (vs 1)) a_nil)) l_nil)))) p_nil)))) (s_cons (s_ret (c_bl)) s_nil) s_nil) (s_cons (ss 6 sc_54.nd (c_bin (od_sub) (pk_of (c_call Z.ok_41 (hr.mono (by omega)) T.g_41 T.kp_41 T.b_41 tk (a_cons (a_io (pv 0)) (a_cons (a_sh (c_int)) a_nil)))) (pk_of (c_int)))) (s_cons (s_if (t_bool (t_or (t_cmp (od_ne rfl hr.u64) (pk_of (c_biB (bd_repr rfl hr.gu hr.u100) T.z_repr (p_cons (pk_of (c_call Z.ok_32 (hr.mono (by omega)) T.g_32 T.kp_32 T.b_32 tk (a_cons (a_sh (vs 1)) (a_cons (a_sh (vs 6)) a_nil)))) p_nil))) (pk_of (c_biB (bd_repr rfl hr.gu hr.u100) T.z_repr (p_cons (pk_of (c_ite (t_cmp (od_eq rfl hr.u64) (pk_of (c_idx rfl (vk 1) (pk_of (c_int)))) (pk_of (c_str))) (vs 6) (c_call Z.ok_43 (hr.mono (by omega)) T.g_43 T.kp_43 T.b_43 tk (a_cons (a_sh (c_idx rfl (vk 1) (pk_of (c_int)))) (a_cons (a_sh (c_lst (l_cons (vs 6) l_nil))) a_nil))))) p_nil)))) (t_or1 (op := .Or) (t_cmp (od_ne rfl hr.u64) (pk_of (c_biB (bd_repr rfl hr.gu hr.u100) T.z_repr (p_cons (pk_of (c_callK0 Z.ok_32 (hr.mono (by omega)) T.g_32 T.kp_32 (bk_32_0_k_ring T) tk (k_cons (a_sh (c_int)) (k_cons (a_sh (vs 1)) k_nil)) rfl)) p_nil))) (pk_of (c_biB (bd_repr rfl hr.gu hr.u100) T.z_repr (p_cons (pk_of (c_call Z.ok_47 (hr.mono (by omega)) T.g_47 T.kp_47 T.b_47 tk (a_cons (a_sh (vs 1)) a_nil))) p_nil))))))) (s_cons (s_ret (c_bl)) s_nil) s_nil) (s_cons (ss 7 sc_54.nd (c_lst (l_cons (c_call Z.ok_34 (hr.mono (by omega)) T.g_34 T.kp_34 T.b_34 tk (a_cons (a_sh (vs 1)) (a_cons (a_sh (vs 4)) (a_cons (a_sh (vs 5)) a_nil)))) (l_cons (c_call Z.ok_35 (hr.mono (by omega)) T.g_35 T.kp_35 T.b_35 tk (a_cons (a_sh (vs 1)) (a_cons (a_sh (vs 4)) (a_cons (a_sh (vs 5)) a_nil)))) (l_cons (c_call Z.ok_36 (hr.mono (by omega)) T.g_36 T.kp_36 T.b_36 tk (a_cons (a_sh (vs 1)) (a_cons (a_sh (vs 4)) (a_cons (a_sh (vs 5)) a_nil)))) (l_cons (c_callK0 Z.ok_34 (hr.mono (by omega)) T.g_34 T.kp_34 (bk_34_0_other_one_ring T) tk (k_cons (a_sh (vs 5)) (k_cons (a_sh (vs 4)) (k_cons (a_sh (vs 1)) k_nil))) rfl) l_nil)))))) (s_cons (ss 8 sc_54.nd (c_call Z.ok_44 (hr.mono (by omega)) T.g_44 T.kp_44 T.b_44 tk (a_cons (a_sh (vs 1)) (a_cons (a_sh (vs 4)) (a_cons (a_sh (vs 5)) a_nil))))) (s_cons (s_if (t_cmp (od_ne rfl hr.u64) (pk_of (c_biB (bd_repr rfl hr.gu hr.u100) T.z_repr (p_cons (vk 7) p_nil))) (pk_of (c_biB (bd_repr rfl hr.gu hr.u100) T.z_repr (p_cons (pk_of (c_lst (l_cons (vs 8) (l_cons (c_call Z.ok_44 (hr.mono (by omega)) T.g_44 T.kp_44 T.b_44 tk (a_cons (a_sh (vs 1)) (a_cons (a_sh (vs 4)) (a_cons (a_sh (c_call Z.ok_46 (hr.mono (by omega)) T.g_46 T.kp_46 T.b_46 tk (a_cons (a_sh (vs 1)) (a_cons (a_sh (vs 5)) a_nil)))) a_nil)))) (l_cons (c_call Z.ok_45 (hr.mono (by omega)) T.g_45 T.kp_45 T.b_45 tk (a_cons (a_sh (vs 1)) (a_cons (a_sh (vs 4)) (a_cons (a_sh (vs 5)) a_nil)))) (l_cons (vs 8) l_nil)))))) p_nil)))) (s_cons (s_ret (c_bl)) s_nil) s_nil) (s_cons (s_par rfl sc_54.nd rfl rfl (by decide) rfl rfl (l_cons (c_call Z.ok_41 (hr.mono (by omega)) T.g_41 T.kp_41 T.b_41 tk (a_cons (a_io (pv 0)) (a_cons (a_sh (c_int)) a_nil))) (l_cons (c_call Z.ok_48 (hr.mono (by omega)) T.g_48 T.kp_48 T.b_48 tk (a_cons (a_sh (vs 1)) a_nil)) l_nil))) (s_cons (s_for (passes_of rfl) rfl (it_rng1 T.z_range (l_cons (vs 9) l_nil)) (gn 11 sc_54.nd) (s_cons (ss 10 sc_54.nd (c_call Z.ok_45 (hr.mono (by omega)) T.g_45 T.kp_45 T.b_45 tk (a_cons (a_sh (vs 1)) (a_cons (a_sh (vs 10)) (a_cons (a_sh (vs 4)) a_nil))))) s_nil)) (s_cons (s_if (t_cmp (od_ne rfl hr.u64) (pk_of (c_biB (bd_repr rfl hr.gu hr.u100) T.z_repr (p_cons (pk_of (c_call Z.ok_37 (hr.mono (by omega)) T.g_37 T.kp_37 T.b_37 tk (a_cons (a_sh (vs 1)) (a_cons (a_sh (vs 4)) (a_cons (a_sh (vs 9)) a_nil))))) p_nil))) (pk_of (c_biB (bd_repr rfl hr.gu hr.u100) T.z_repr (p_cons (vk 10) p_nil)))) (s_cons (s_ret (c_bl)) s_nil) s_nil) (s_cons (s_if (t_cmp (od_ne rfl hr.u64) (vk 5) (pk_of (c_call Z.ok_47 (hr.mono (by omega)) T.g_47 T.kp_47 T.b_47 tk (a_cons (a_sh (vs 1)) a_nil)))) (s_cons (s_unp (c_call Z.ok_38 (hr.mono (by omega)) T.g_38 T.kp_38 T.b_38 tk (a_cons (a_sh (vs 1)) (a_cons (a_sh (vs 4)) (a_cons (a_sh (vs 5)) a_nil)))) (g_tp rfl rfl (gs_cons (gn 12 sc_54.nd) (gs_cons (gn 13 sc_54.nd) gs_nil)))) (s_cons (s_if (t_bool (t_or (t_not (t_val (pk_of (c_call Z.ok_50 (hr.mono (by omega)) T.g_50 T.kp_50 T.b_50 tk (a_cons (a_sh (vs 1)) (a_cons (a_sh (vs 12)) a_nil)))))) (t_or1 (op := .Or) (t_not (t_val (pk_of (c_call Z.ok_51 (hr.mono (by omega)) T.g_51 T.kp_51 T.b_51 tk (a_cons (a_sh (vs 1)) (a_cons (a_sh (vs 13)) (a_cons (a_sh (vs 5)) a_nil)))))))))) (s_cons (s_ret (c_bl)) s_nil) s_nil) (s_cons (s_if (t_bool (t_or (t_cmp (od_ne rfl hr.u64) (pk_of (c_call Z.ok_44 (hr.mono (by omega)) T.g_44 T.kp_44 T.b_44 tk (a_cons (a_sh (vs 1)) (a_cons (a_sh (c_call Z.ok_45 (hr.mono (by omega)) T.g_45 T.kp_45 T.b_45 tk (a_cons (a_sh (vs 1)) (a_cons (a_sh (vs 12)) (a_cons (a_sh (vs 5)) a_nil))))) (a_cons (a_sh (vs 13)) a_nil))))) (vk 4)) (t_or1 (op := .Or) (t_cmp (od_ne rfl hr.u64) (pk_of (c_callK0 Z.ok_38 (hr.mono (by omega)) T.g_38 T.kp_38 (bk_38_0_other_one_ring T) tk (k_cons (a_sh (vs 5)) (k_cons (a_sh (vs 4)) (k_cons (a_sh (vs 1)) k_nil))) rfl)) (pk_of (c_tup (l_cons (vs 12) (l_cons (vs 13) l_nil)))))))) (s_cons (s_ret (c_bl)) s_nil) s_nil) (s_cons (ss 14 sc_54.nd (c_call Z.ok_49 (hr.mono (by omega)) T.g_49 T.kp_49 T.b_49 tk (a_cons (a_io (pv 0)) (a_cons (a_sh (vs 1)) (a_cons (a_sh (c_int)) (a_cons (a_sh (c_int)) a_nil)))))) (s_cons (ss 14 sc_54.nd (c_ite (t_val (pk_of (c_call Z.ok_51 (hr.mono (by omega)) T.g_51 T.kp_51 T.b_51 tk (a_cons (a_sh (vs 1)) (a_cons (a_sh (vs 14)) (a_cons (a_sh (vs 5)) a_nil)))))) (vs 14) (c_call Z.ok_47 (hr.mono (by omega)) T.g_47 T.kp_47 T.b_47 tk (a_cons (a_sh (vs 1)) a_nil)))) (s_cons (ss 15 sc_54.nd (c_call Z.ok_44 (hr.mono (by omega)) T.g_44 T.kp_44 T.b_44 tk (a_cons (a_sh (vs 1)) (a_cons (a_sh (c_call Z.ok_45 (hr.mono (by omega)) T.g_45 T.kp_45 T.b_45 tk (a_cons (a_sh (vs 1)) (a_cons (a_sh (vs 4)) (a_cons (a_sh (vs 5)) a_nil))))) (a_cons (a_sh (vs 14)) a_nil))))) (s_cons (s_if (t_cmp (od_ne rfl hr.u64) (pk_of (c_call Z.ok_39 (hr.mono (by omega)) T.g_39 T.kp_39 T.b_39 tk (a_cons (a_sh (vs 1)) (a_cons (a_sh (vs 5)) (a_cons (a_sh (vs 15)) a_nil))))) (pk_of (c_cmp (od_eq rfl hr.u64) (vk 14) (pk_of (c_call Z.ok_47 (hr.mono (by omega)) T.g_47 T.kp_47 T.b_47 tk (a_cons (a_sh (vs 1)) a_nil)))))) (s_cons (s_ret (c_bl)) s_nil) s_nil) s_nil))))))) s_nil) (s_cons (ss 16 sc_54.nd (c_call Z.ok_47 (hr.mono (by omega)) T.g_47 T.kp_47 T.b_47 tk (a_cons (a_sh (vs 1)) a_nil))) (s_cons (s_if (t_cmp (od_ne rfl hr.u64) (pk_of (c_lst (l_cons (c_call Z.ok_39 (hr.mono (by omega)) T.g_39 T.kp_39 T.b_39 tk (a_cons (a_sh (vs 1)) (a_cons (a_sh (vs 16)) (a_cons (a_sh (vs 16)) a_nil)))) (l_cons (c_call Z.ok_39 (hr.mono (by omega)) T.g_39 T.kp_39 T.b_39 tk (a_cons (a_sh (vs 1)) (a_cons (a_sh (vs 4)) (a_cons (a_sh (vs 16)) a_nil)))) (l_cons (c_call Z.ok_39 (hr.mono (by omega)) T.g_39 T.kp_39 T.b_39 tk (a_cons (a_sh (vs 1)) (a_cons (a_sh (vs 16)) (a_cons (a_sh (vs 4)) a_nil)))) l_nil))))) (pk_of (c_lst (l_cons (c_bl) (l_cons (c_bl) (l_cons (c_cmp (od_eq rfl hr.u64) (vk 4) (vk 16)) l_nil)))))) (s_cons (s_ret (c_bl)) s_nil) s_nil) (s_cons (s_ret (c_call Z.ok_53 (hr.mono (by omega)) T.g_53 T.kp_53 T.b_53 tk (a_cons (a_io (pv 0)) (a_cons (a_sh (vs 1)) (a_cons (a_sh (vs 4)) a_nil))))) s_nil))))))))))))))))
theorem sc_55 : FnScope ["script", "k", "spring", "turn"] ["script"] (defScope t_55) := ⟨rfl, rfl, rfl, by decide +kernel, rfl, by decide +kernel, by decide +kernel⟩
theorem f_55 (T : Tx P K mg t fi) (Z : AllOk P w K mg base t n) : FnD P w K mg base (gx K t) (callP pr (n + 1)) (2 * (n + 1)) 55 t.a55 t.d55 ["script"] := by
  obtain ⟨oc, od, kV, doc, pm, an, cdv, ct, osl, e, lk, hcd⟩ := T.F_55.ex
  rw [e] at lk ⊢
  refine fnD_of (p := pr) (df := d_55) (k := 2 * n + 1) lk hcd sc_55 rfl rfl rfl fun A outer s H E hr => ?_
  have tk := takes_of (X := cxOf (L2.CX P w) P w K mg base ["script", "k", "spring", "turn"] "law" (defScope t_55) t.a55 cdv A outer s H E) (E := E) rfl rfl rfl rfl
  exact (s_cons (s_for (passes_of rfl) rfl (it_rng1 T.z_range (l_cons (c_biB (bd_max rfl) T.z_max (p_cons (pk_of (c_int)) (p_cons (pk_of (c_biB (bd_min rfl) T.z_min (p_cons (pk_of (c_int)) (p_cons (pk_of (c_biB (bd_len rfl) T.z_len (p_cons (vk 0) p_nil))) p_nil)))) p_nil))) l_nil)) (gn 1 sc_55.nd) (s_cons (ss 2 sc_55.nd (c_call Z.ok_40 (hr.mono (by omega)) T.g_40 T.kp_40 T.b_40 tk (a_cons (a_sh (vs 0)) (a_cons (a_sh (vs 1)) a_nil)))) (s_cons (s_for (passes_of rfl) rfl (it_rng1 T.z_range (l_cons (c_int) l_nil)) (gn 3 sc_55.nd) (s_cons (s_if (t_not (t_val (pk_of (c_call Z.ok_54 (hr.mono (by omega)) T.g_54 T.kp_54 T.b_54 tk (a_cons (a_io (pv 2)) a_nil))))) (s_cons (s_ret (c_bl)) s_nil) s_nil) s_nil)) s_nil))) (s_cons (s_ret (c_bl)) s_nil))
theorem all_ok (T : Tx P K mg t fi) : ∀ n, AllOk P w K mg base t n
  | 0 => ⟨fnD_zero, fnD_zero, fnD_zero, fnD_zero, fnD_zero, fnD_zero, fnD_zero, fnD_zero, fnD_zero, fnD_zero, fnD_zero, fnD_zero, fnD_zero, fnD_zero, fnD_zero, fnD_zero, fnD_zero, fnD_zero, fnD_zero, fnD_zero, fnD_zero, fnD_zero, fnD_zero, fnD_zero, fnD_zero, fnD_zero, fnD_zero, fnD_zero, fnD_zero, fnD_zero, fnD_zero, fnD_zero, fnD_zero, fnD_zero, fnD_zero, fnD_zero, fnD_zero, fnD_zero, fnD_zero, fnD_zero, fnD_zero, fnD_zero, fnD_zero, fnD_zero, fnD_zero, fnD_zero, fnD_zero, fnD_zero, fnD_zero, fnD_zero, fnD_zero, fnD_zero, fnD_zero, fnD_zero, fnD_zero, fnD_zero⟩
  | n + 1 => ⟨f_0 T (all_ok T n), f_1 T (all_ok T n), f_2 T (all_ok T n), f_3 T (all_ok T n), f_4 T (all_ok T n), f_5 T (all_ok T n), f_6 T (all_ok T n), f_7 T (all_ok T n), f_8 T (all_ok T n), f_9 T (all_ok T n), f_10 T (all_ok T n), f_11 T (all_ok T n), f_12 T (all_ok T n), f_13 T (all_ok T n), f_14 T (all_ok T n), f_15 T (all_ok T n), f_16 T (all_ok T n), f_17 T (all_ok T n), f_18 T (all_ok T n), f_19 T (all_ok T n), f_20 T (all_ok T n), f_21 T (all_ok T n), f_22 T (all_ok T n), f_23 T (all_ok T n), f_24 T (all_ok T n), f_25 T (all_ok T n), f_26 T (all_ok T n), f_27 T (all_ok T n), f_28 T (all_ok T n), f_29 T (all_ok T n), f_30 T (all_ok T n), f_31 T (all_ok T n), f_32 T (all_ok T n), f_33 T (all_ok T n), f_34 T (all_ok T n), f_35 T (all_ok T n), f_36 T (all_ok T n), f_37 T (all_ok T n), f_38 T (all_ok T n), f_39 T (all_ok T n), f_40 T (all_ok T n), f_41 T (all_ok T n), f_42 T (all_ok T n), f_43 T (all_ok T n), f_44 T (all_ok T n), f_45 T (all_ok T n), f_46 T (all_ok T n), f_47 T (all_ok T n), f_48 T (all_ok T n), f_49 T (all_ok T n), f_50 T (all_ok T n), f_51 T (all_ok T n), f_52 T (all_ok T n), f_53 T (all_ok T n), f_54 T (all_ok T n), f_55 T (all_ok T n)⟩
end
end Lw
/-! Rows of ints over a prime: the plain mathematics. -/
namespace Rw
/-- zeros at the end dropped -/
def trim : List Int → List Int
  | [] => []
  | x :: xs => match trim xs with
    | [] => if x = 0 then [] else [x]
    | y :: ys => x :: y :: ys
theorem trim_snoc (l : List Int) (x : Int) : trim (l ++ [x]) = if x = 0 then trim l else l ++ [x] := by
  induction l with
  | nil => simp [trim]
  | cons a l ih =>
    simp only [List.cons_append, trim, ih]
    by_cases h : x = 0
    · simp only [h, if_true]
    · simp only [h, if_false]
      cases hl : l ++ [x] with
      | nil => simp at hl
      | cons b m => rfl
theorem trim_len (l : List Int) : (trim l).length ≤ l.length := by
  induction l with
  | nil => simp [trim]
  | cons a l ih =>
    simp only [trim]
    cases ht : trim l with
    | nil => by_cases h : a = 0 <;> simp [h]
    | cons b m => rw [ht] at ih; simp at ih ⊢; omega
theorem trim_get (l : List Int) (n : Nat) : (trim l).getD n 0 = l.getD n 0 := by
  induction l generalizing n with
  | nil => simp [trim]
  | cons a l ih =>
    simp only [trim]
    cases ht : trim l with
    | nil =>
      rw [ht] at ih
      by_cases h : a = 0
      · cases n with
        | zero => simp [h]
        | succ n => have := ih n; simp [h] at this ⊢; omega
      · cases n with
        | zero => simp [h]
        | succ n => have := ih n; simp [h] at this ⊢; omega
    | cons b m =>
      rw [ht] at ih
      cases n with
      | zero => simp
      | succ n => have := ih n; simpa using this
/-- no zero at the end -/
def Tail (l : List Int) : Prop := trim l = l
theorem trim_trim (l : List Int) : trim (trim l) = trim l := by
  induction l with
  | nil => rfl
  | cons a l ih =>
    simp only [trim]
    cases ht : trim l with
    | nil => by_cases h : a = 0 <;> simp [h, trim]
    | cons b m => rw [ht] at ih; simp only [trim] at ih ⊢; rw [ih]
theorem tail_trim (l : List Int) : Tail (trim l) := trim_trim l
theorem mem_trim {l : List Int} {x : Int} (h : x ∈ trim l) : x ∈ l := by
  induction l with
  | nil => simpa [trim] using h
  | cons a l ih =>
    simp only [trim] at h
    cases ht : trim l with
    | nil =>
      rw [ht] at h
      by_cases ha : a = 0
      · simp [ha] at h
      · simp [ha] at h; simp [h]
    | cons b m =>
      rw [ht] at h ih
      rcases List.mem_cons.1 h with e | e
      · simp [e]
      · exact List.mem_cons_of_mem _ (ih e)
theorem tail_snoc {l : List Int} {x : Int} (h : Tail (l ++ [x])) : x ≠ 0 := by
  intro e
  unfold Tail at h
  rw [trim_snoc, if_pos e] at h
  have := trim_len l
  rw [h] at this
  simp only [List.length_append, List.length_cons, List.length_nil] at this
  omega
theorem tail_of {l : List Int} {x : Int} (h : x ≠ 0) : Tail (l ++ [x]) := by
  unfold Tail; rw [trim_snoc, if_neg h]
/-- the coefficients tell the row -/
theorem tail_ext {l m : List Int} (hl : Tail l) (hm : Tail m) (h : ∀ n, l.getD n 0 = m.getD n 0) : l = m := by
  have key : ∀ (l m : List Int), (∀ n, l.getD n 0 = m.getD n 0) → trim l = trim m := by
    intro l
    induction l with
    | nil =>
      intro m
      induction m with
      | nil => intro _; rfl
      | cons b m ih =>
        intro h
        have h0 := h 0
        have := ih (fun n => by have := h (n + 1); simpa using this)
        simp only [trim] at this ⊢
        rw [← this]
        simp at h0
        simp [← h0]
    | cons a l ih =>
      intro m
      cases m with
      | nil =>
        intro h
        have h0 := h 0
        have := ih [] (fun n => by have := h (n + 1); simpa using this)
        simp only [trim] at this ⊢
        rw [this]
        simp at h0
        simp [h0]
      | cons b m =>
        intro h
        have h0 := h 0
        have := ih m (fun n => by have := h (n + 1); simpa using this)
        simp only [trim]
        rw [this]
        simp at h0
        rw [h0]
  have := key l m h
  rw [hl, hm] at this
  exact this
/-- each part by p, then trimmed -/
def cut (p : Int) (l : List Int) : List Int := trim (l.map (· % p))
theorem cut_get (p : Int) (l : List Int) (n : Nat) : (cut p l).getD n 0 = l.getD n 0 % p := by
  unfold cut
  rw [trim_get]
  simp only [List.getD_eq_getElem?_getD, List.getElem?_map]
  cases l[n]? <;> simp
/-- an element of the ring of rows over p -/
structure El (p : Int) (l : List Int) : Prop where
  lo : ∀ x ∈ l, 0 ≤ x ∧ x < p
  tl : Tail l
theorem el_cut {p : Int} (hp : 0 < p) (l : List Int) : El p (cut p l) := by
  refine ⟨fun x hx => ?_, tail_trim _⟩
  obtain ⟨y, _, rfl⟩ := List.mem_map.1 (mem_trim hx)
  exact ⟨Int.emod_nonneg _ (by omega), Int.emod_lt_of_pos _ hp⟩
theorem cut_len (p : Int) (l : List Int) : (cut p l).length ≤ l.length := by
  have := trim_len (l.map (· % p)); simpa [cut] using this
theorem el_get {p : Int} (hp : 0 < p) {l : List Int} (h : El p l) (n : Nat) : 0 ≤ l.getD n 0 ∧ l.getD n 0 < p := by
  rw [List.getD_eq_getElem?_getD]
  cases e : l[n]? with
  | none => simp; omega
  | some x => exact h.lo x (List.mem_of_getElem? e)
/-- two elements with the same parts by p are one -/
theorem el_ext {p : Int} (hp : 0 < p) {l m : List Int} (hl : El p l) (hm : El p m) (h : ∀ n, l.getD n 0 % p = m.getD n 0 % p) : l = m := by
  refine tail_ext hl.tl hm.tl fun n => ?_
  have h1 := el_get hp hl n
  have h2 := el_get hp hm n
  have := h n
  rwa [Int.emod_eq_of_lt h1.1 h1.2, Int.emod_eq_of_lt h2.1 h2.2] at this
theorem cut_el {p : Int} (hp : 0 < p) {l : List Int} (h : El p l) : cut p l = l :=
  el_ext hp (el_cut hp l) h fun n => by rw [cut_get, Int.emod_emod_of_dvd _ (Int.dvd_refl p)]
theorem trim_short {l : List Int} {N : Nat} (h : ∀ n, N ≤ n → l.getD n 0 = 0) : (trim l).length ≤ N := by
  induction l generalizing N with
  | nil => simp [trim]
  | cons a l ih =>
    cases N with
    | zero =>
      have h0 := h 0 (Nat.zero_le _)
      have := ih (N := 0) fun n _ => by have := h (n + 1) (Nat.zero_le _); simpa using this
      have e : trim l = [] := List.eq_nil_of_length_eq_zero (by omega)
      simp at h0
      simp [trim, e, h0]
    | succ N =>
      have := ih (N := N) fun n hn => by have := h (n + 1) (by omega); simpa using this
      simp only [trim]
      cases ht : trim l with
      | nil => by_cases e : a = 0 <;> simp [e]
      | cons b m => rw [ht] at this; simp at this ⊢; omega
/-- the parts of a row as a function -/
def co (l : List Int) (n : Nat) : Int := l.getD n 0
/-- zeros behind -/
def pad (n : Nat) (l : List Int) : List Int := l ++ List.replicate (n - l.length) 0
theorem co_pad (k : Nat) (l : List Int) (n : Nat) : co (pad k l) n = co l n := by
  simp only [co, pad, List.getD_eq_getElem?_getD, List.getElem?_append]
  by_cases h : n < l.length
  · simp [h]
  · simp only [h, if_false, List.getElem?_replicate]
    rw [List.getElem?_eq_none (by omega)]
    by_cases h2 : n - l.length < k - l.length <;> simp [h2]
theorem pad_len {k : Nat} {l : List Int} (h : l.length ≤ k) : (pad k l).length = k := by
  simp [pad]; omega
def addL (l m : List Int) : List Int := List.zipWith (· + ·) (pad (max l.length m.length) l) (pad (max l.length m.length) m)
theorem co_addL (l m : List Int) (n : Nat) : co (addL l m) n = co l n + co m n := by
  have h1 := pad_len (Nat.le_max_left l.length m.length)
  have h2 := pad_len (Nat.le_max_right l.length m.length)
  rw [← co_pad (max l.length m.length) l n, ← co_pad (max l.length m.length) m n]
  simp only [co, addL, List.getD_eq_getElem?_getD, List.getElem?_zipWith]
  by_cases h : n < max l.length m.length
  · rw [List.getElem?_eq_getElem (by rw [h1]; exact h), List.getElem?_eq_getElem (by rw [h2]; exact h)]; rfl
  · rw [List.getElem?_eq_none (by rw [h1]; omega), List.getElem?_eq_none (by rw [h2]; omega)]; rfl
/-- a row's part changed -/
def bump (l : List Int) (i : Nat) (v : Int) : List Int := l.set i (co l i + v)
theorem bump_len (l : List Int) (i : Nat) (v : Int) : (bump l i v).length = l.length := by simp [bump]
theorem co_bump {l : List Int} {i : Nat} (h : i < l.length) (v : Int) (n : Nat) : co (bump l i v) n = co l n + if n = i then v else 0 := by
  simp only [co, bump, List.getD_eq_getElem?_getD, List.getElem?_set]
  by_cases e : i = n
  · subst e; simp [h]
  · have e' : ¬ n = i := fun x => e x.symm
    simp [e, e']
def rowGo (l : List Int) (i : Nat) (a : Int) : List Int → List Int
  | [] => l
  | y :: ys => rowGo (bump l i (a * y)) (i + 1) a ys
theorem rowGo_len (a : Int) (ys l : List Int) (i : Nat) : (rowGo l i a ys).length = l.length := by
  induction ys generalizing l i with
  | nil => rfl
  | cons y ys ih => rw [rowGo, ih, bump_len]
/-- a row moved up -/
def sh (g : Nat → Int) (i n : Nat) : Int := if i ≤ n then g (n - i) else 0
theorem co_rowGo (a : Int) (ys l : List Int) (i : Nat) (h : i + ys.length ≤ l.length) (n : Nat) : co (rowGo l i a ys) n = co l n + a * sh (co ys) i n := by
  induction ys generalizing l i with
  | nil =>
    have : sh (co []) i n = 0 := by simp [sh, co]
    simp [rowGo, this]
  | cons y ys ih =>
    simp only [List.length_cons] at h
    rw [rowGo, ih _ _ (by rw [bump_len]; omega), co_bump (by omega)]
    have : a * sh (co (y :: ys)) i n = (if n = i then a * y else 0) + a * sh (co ys) (i + 1) n := by
      unfold sh
      by_cases h1 : n = i
      · subst h1
        have e3 : ¬ (n + 1 ≤ n) := by omega
        simp only [e3, if_false, Nat.le_refl, if_true, Nat.sub_self]
        simp [co]
      · by_cases h2 : i ≤ n
        · have h3 : i + 1 ≤ n := by omega
          obtain ⟨k, rfl⟩ : ∃ k, n = i + 1 + k := ⟨n - (i + 1), by omega⟩
          have e1 : i + 1 + k - i = k + 1 := by omega
          have e2 : i + 1 + k - (i + 1) = k := by omega
          simp only [h1, h2, h3, if_true, if_false, e1, e2]
          simp [co]
        · have h3 : ¬ i + 1 ≤ n := by omega
          simp [h1, h2, h3]
    rw [this]; omega
def convGo (l : List Int) (i : Nat) (ys : List Int) : List Int → List Int
  | [] => l
  | x :: xs => convGo (rowGo l i x ys) (i + 1) ys xs
def mulL (xs ys : List Int) : List Int := convGo (List.replicate (xs.length + ys.length) 0) 0 ys xs
theorem convGo_len (ys xs l : List Int) (i : Nat) : (convGo l i ys xs).length = l.length := by
  induction xs generalizing l i with
  | nil => rfl
  | cons x xs ih => rw [convGo, ih, rowGo_len]
/-- sums -/
def sm (F : Nat → Int) : Nat → Int
  | 0 => 0
  | N + 1 => sm F N + F N
theorem sm_congr {F G : Nat → Int} {N : Nat} (h : ∀ i, i < N → F i = G i) : sm F N = sm G N := by
  induction N with
  | zero => rfl
  | succ N ih => simp only [sm]; rw [ih (fun i hi => h i (by omega)), h N (by omega)]
theorem sm_shift (F : Nat → Int) (N : Nat) : sm F (N + 1) = F 0 + sm (fun i => F (i + 1)) N := by
  induction N with
  | zero => simp [sm]
  | succ N ih => rw [sm, ih]; simp only [sm]; omega
theorem sm_zero {F : Nat → Int} {a N : Nat} (h : ∀ i, a ≤ i → F i = 0) (haN : a ≤ N) : sm F N = sm F a := by
  induction N with
  | zero => have : a = 0 := by omega
            rw [this]
  | succ N ih =>
    by_cases e : a = N + 1
    · rw [e]
    · rw [sm, h N (by omega), ih (by omega)]; omega
theorem sm_add (F G : Nat → Int) (N : Nat) : sm (fun i => F i + G i) N = sm F N + sm G N := by
  induction N with
  | zero => rfl
  | succ N ih => simp only [sm]; rw [ih]; omega
/-- the product of two rows as functions -/
def conv (f g : Nat → Int) (n : Nat) : Int := sm (fun i => f i * sh g i n) (n + 1)
theorem sh_far (g : Nat → Int) {i n : Nat} (h : n < i) : sh g i n = 0 := by simp [sh]; omega
theorem conv_to (f g : Nat → Int) {n N : Nat} (h : n + 1 ≤ N) : sm (fun i => f i * sh g i n) N = conv f g n :=
  sm_zero (fun i hi => by rw [sh_far g (by omega)]; simp) h
theorem co_convGo (ys xs l : List Int) (i : Nat) (h : i + xs.length + ys.length ≤ l.length + 1 ∨ xs = []) (n : Nat) : co (convGo l i ys xs) n = co l n + sm (fun k => co xs k * sh (co ys) (i + k) n) xs.length := by
  induction xs generalizing l i with
  | nil => simp [convGo, sm]
  | cons x xs ih =>
    have h : i + (xs.length + 1) + ys.length ≤ l.length + 1 := by
      rcases h with h | h
      · simpa using h
      · exact absurd h (by simp)
    rw [convGo, ih _ _ (by rw [rowGo_len]; left; omega), co_rowGo _ _ _ _ (by omega)]
    simp only [List.length_cons]
    rw [sm_shift]
    have e1 : co (x :: xs) 0 = x := rfl
    have e2 : sm (fun k => co (x :: xs) (k + 1) * sh (co ys) (i + (k + 1)) n) xs.length = sm (fun k => co xs k * sh (co ys) (i + 1 + k) n) xs.length :=
      sm_congr fun k _ => by
        have : i + (k + 1) = i + 1 + k := by omega
        rw [this]; rfl
    have e3 : i + 0 = i := rfl
    rw [e1, e2, e3]; omega
theorem co_far {l : List Int} {n : Nat} (h : l.length ≤ n) : co l n = 0 := by
  simp only [co, List.getD_eq_getElem?_getD]; rw [List.getElem?_eq_none h]; rfl
theorem co_zeros (k n : Nat) : co (List.replicate k 0) n = 0 := by
  simp only [co, List.getD_eq_getElem?_getD, List.getElem?_replicate]; by_cases h : n < k <;> simp [h]
theorem co_mulL (xs ys : List Int) (n : Nat) : co (mulL xs ys) n = conv (co xs) (co ys) n := by
  unfold mulL
  rw [co_convGo _ _ _ _ (by left; simp), co_zeros]
  simp only [Nat.zero_add, Int.zero_add]
  have h1 : sm (fun k => co xs k * sh (co ys) k n) (max xs.length (n + 1)) = sm (fun k => co xs k * sh (co ys) k n) xs.length :=
    sm_zero (fun i hi => by rw [co_far hi]; simp) (Nat.le_max_left _ _)
  rw [← h1]
  exact conv_to _ _ (Nat.le_max_right _ _)
theorem sm_mod {F G : Nat → Int} {p : Int} {N : Nat} (h : ∀ i, i < N → F i % p = G i % p) : sm F N % p = sm G N % p := by
  induction N with
  | zero => rfl
  | succ N ih =>
    simp only [sm]
    rw [Int.add_emod, ih (fun i hi => h i (by omega)), h N (by omega), ← Int.add_emod]
theorem conv_mod {f f' g g' : Nat → Int} {p : Int} (h : ∀ n, f n % p = f' n % p) (h' : ∀ n, g n % p = g' n % p) (n : Nat) : conv f g n % p = conv f' g' n % p :=
  sm_mod fun i _ => by
    rw [Int.mul_emod, h i, Int.mul_emod (f' i)]
    have : sh g i n % p = sh g' i n % p := by unfold sh; by_cases e : i ≤ n <;> simp [e, h']
    rw [this]
theorem conv_add (f e g : Nat → Int) (n : Nat) : conv (fun i => f i + e i) g n = conv f g n + conv e g n := by
  unfold conv
  rw [← sm_add]
  exact sm_congr fun i _ => by rw [Int.add_mul]
theorem sm_nil : ∀ k, sm (fun _ => (0 : Int)) k = 0
  | 0 => rfl
  | k + 1 => by simp only [sm, sm_nil k]; rfl
theorem sm_one {F : Nat → Int} {m N : Nat} (h : ∀ i, i ≠ m → F i = 0) (hm : m < N) : sm F N = F m := by
  induction N with
  | zero => omega
  | succ N ih =>
    rw [sm]
    by_cases e : m = N
    · subst e
      have : sm F m = 0 := by
        rw [sm_congr (G := fun _ => 0) fun i hi => h i (by omega)]
        exact sm_nil m
      omega
    · rw [ih (by omega), h N (by omega)]; omega
/-- one part more -/
theorem conv_one (f g : Nat → Int) (m : Nat) (c : Int) (n : Nat) : conv (fun i => f i + if i = m then c else 0) g n = conv f g n + c * sh g m n := by
  rw [conv_add]
  congr 1
  unfold conv
  by_cases h : m < n + 1
  · rw [sm_one (m := m) (fun i hi => by simp [hi]) h]; simp
  · have e : sh g m n = 0 := sh_far g (by omega)
    have e2 : sm (fun i => (if i = m then c else 0) * sh g i n) (n + 1) = sm (fun _ => (0 : Int)) (n + 1) := by
      refine sm_congr fun i hi => ?_
      have : i ≠ m := by omega
      simp [this]
    rw [e, e2, sm_nil]; simp
end Rw
/-! Division of rows. -/
namespace Rw
/-- one place divided -/
def divStep (p inv : Int) (other : List Int) (k : Nat) (fl : List Int × List Int) : List Int × List Int :=
  let c := co fl.2 (k + other.length - 1) * inv % p
  (fl.1.set k c, rowGo fl.2 k (-c) other)
/-- places k-1, .., 0 -/
def divGo (p inv : Int) (other : List Int) : Nat → List Int × List Int → List Int × List Int
  | 0, fl => fl
  | k + 1, fl => divGo p inv other k (divStep p inv other k fl)
/-- what the turns keep -/
structure DivI (p : Int) (one other : List Int) (k : Nat) (fl : List Int × List Int) : Prop where
  ln : fl.2.length = one.length
  lf : fl.1.length = one.length + 1 - other.length
  eq : ∀ n, co one n = co fl.2 n + conv (co fl.1) (co other) n
  lo : ∀ j, j < k → co fl.1 j = 0
  hi : ∀ n, k + other.length - 1 ≤ n → co fl.2 n % p = 0
theorem co_set {l : List Int} {i : Nat} (h : i < l.length) (v : Int) (n : Nat) : co (l.set i v) n = if n = i then v else co l n := by
  simp only [co, List.getD_eq_getElem?_getD, List.getElem?_set]
  by_cases e : i = n
  · subst e; simp [h]
  · have e' : ¬ n = i := fun x => e x.symm
    simp [e, e']
theorem divI_step {p inv : Int} {one other : List Int} {k : Nat} {fl : List Int × List Int} (ho : 0 < other.length) (hk : k + other.length ≤ one.length)
    (hinv : inv * co other (other.length - 1) % p = 1 % p)
    (I : DivI p one other (k + 1) fl) : DivI p one other k (divStep p inv other k fl) := by
  have hkf : k < fl.1.length := by rw [I.lf]; omega
  have hl : k + other.length ≤ fl.2.length := by rw [I.ln]; omega
  refine ⟨?_, ?_, ?_, ?_, ?_⟩
  · simp only [divStep]; rw [rowGo_len, I.ln]
  · simp only [divStep]; rw [List.length_set, I.lf]
  · intro n
    simp only [divStep]
    generalize co fl.2 (k + other.length - 1) * inv % p = c
    have e1 : (co (fl.1.set k c)) = fun i => co fl.1 i + if i = k then c else 0 := by
      funext i
      rw [co_set hkf]
      by_cases e : i = k
      · rw [e, I.lo k (by omega)]; simp
      · simp [e]
    rw [e1, conv_one, co_rowGo _ _ _ _ hl, I.eq n, Int.neg_mul]
    omega
  · intro j hj
    simp only [divStep]
    rw [co_set hkf, if_neg (by omega), I.lo j (by omega)]
  · intro n hn
    simp only [divStep]
    rw [co_rowGo _ _ _ _ hl]
    by_cases e : n = k + other.length - 1
    · have e2 : sh (co other) k n = co other (other.length - 1) := by
        unfold sh; rw [if_pos (by omega)]; congr 1; omega
      rw [e2, ← e]
      have h1 : (co fl.2 n * inv % p) * co other (other.length - 1) % p = co fl.2 n % p := by
        rw [Int.mul_emod, Int.emod_emod_of_dvd _ (Int.dvd_refl p), ← Int.mul_emod, Int.mul_assoc, Int.mul_emod, hinv, ← Int.mul_emod, Int.mul_one]
      rw [Int.neg_mul, ← Int.sub_eq_add_neg, Int.sub_emod, h1]
      simp
    · have h1 : sh (co other) k n = 0 := by
        unfold sh; rw [if_pos (by omega)]; exact co_far (by omega)
      rw [h1, Int.mul_zero, Int.add_zero]
      exact I.hi n (by omega)
theorem divI_go {p inv : Int} {one other : List Int} (ho : 0 < other.length)
    (hinv : inv * co other (other.length - 1) % p = 1 % p) : ∀ (k : Nat) (fl : List Int × List Int), k + other.length ≤ one.length + 1 ∨ k = 0 → DivI p one other k fl → DivI p one other 0 (divGo p inv other k fl)
  | 0, fl, _, I => I
  | k + 1, fl, hk, I => divI_go ho hinv k _ (by left; omega) (divI_step ho (by omega) hinv I)
def divFirst (one other : List Int) : List Int × List Int := (List.replicate (one.length + 1 - other.length) 0, one)
theorem conv_nil (g : Nat → Int) (n : Nat) : conv (fun _ => 0) g n = 0 := by
  unfold conv
  rw [sm_congr (G := fun _ => 0) fun i hi => by simp]
  exact sm_nil _
theorem divI_first (p : Int) (one other : List Int) (ho : 0 < other.length) : DivI p one other (one.length + 1 - other.length) (divFirst one other) := by
  refine ⟨rfl, by simp [divFirst], ?_, ?_, ?_⟩
  · intro n
    have : co (divFirst one other).1 = fun _ => 0 := by funext i; exact co_zeros _ _
    rw [this, conv_nil]; simp [divFirst]
  · intro j _; exact co_zeros _ _
  · intro n hn
    have : co (divFirst one other).2 n = 0 := co_far (by simp only [divFirst]; omega)
    rw [this]; simp
/-- a row divided by another -/
def divL (p inv : Int) (one other : List Int) : List Int × List Int := divGo p inv other (one.length + 1 - other.length) (divFirst one other)
theorem divL_I {p inv : Int} {one other : List Int} (ho : 0 < other.length) (hinv : inv * co other (other.length - 1) % p = 1 % p) : DivI p one other 0 (divL p inv one other) :=
  divI_go ho hinv _ _ (by omega) (divI_first p one other ho)
/-- the rest is shorter -/
theorem div_short {p inv : Int} {one other : List Int} (ho : 0 < other.length) (hinv : inv * co other (other.length - 1) % p = 1 % p) :
    (cut p (divL p inv one other).2).length < other.length := by
  have I := divL_I (one := one) ho hinv
  have : (cut p (divL p inv one other).2).length ≤ other.length - 1 := by
    unfold cut
    refine trim_short fun n hn => ?_
    have := I.hi n (by omega)
    simp only [co, List.getD_eq_getElem?_getD] at this
    simp only [List.getD_eq_getElem?_getD, List.getElem?_map]
    cases e : (divL p inv one other).2[n]? with
    | none => rfl
    | some x => rw [e] at this; simpa using this
  omega
theorem co_cut (p : Int) (l : List Int) (n : Nat) : co (cut p l) n = co l n % p := cut_get p l n
theorem am (p a b : Int) : (a % p + b) % p = (a + b) % p := by rw [Int.add_emod, Int.emod_emod_of_dvd _ (Int.dvd_refl p), ← Int.add_emod]
theorem mm (p a : Int) : a % p % p = a % p := Int.emod_emod_of_dvd _ (Int.dvd_refl p)
/-- it is the division -/
theorem div_eq {p inv : Int} (hp : 0 < p) {one other : List Int} (h1 : El p one) (ho : 0 < other.length) (hinv : inv * co other (other.length - 1) % p = 1 % p) :
    cut p (addL (cut p (mulL (cut p (divL p inv one other).1) other)) (cut p (divL p inv one other).2)) = one := by
  have I := divL_I (one := one) ho hinv
  refine el_ext hp (el_cut hp _) h1 fun n => ?_
  show co _ n % p = co _ n % p
  rw [co_cut, mm, co_addL, co_cut, co_cut, co_mulL, ← Int.add_emod, I.eq n, Int.add_emod]
  rw [conv_mod (f' := co (divL p inv one other).1) (g' := co other) (fun n => by rw [co_cut, mm]) (fun _ => rfl)]
  rw [← Int.add_emod, Int.add_comm]
/-- nothing else is -/
theorem div_one {p inv : Int} (hp : 0 < p) {one other more : List Int} (hm : El p more) (hs : more.length < other.length) (ho : 0 < other.length)
    (hinv : inv * co other (other.length - 1) % p = 1 % p) :
    cut p (divL p inv (cut p (addL (cut p (mulL one other)) more)) other).2 = more := by
  generalize hw : cut p (addL (cut p (mulL one other)) more) = whole
  have I := divL_I (one := whole) ho hinv
  generalize divL p inv whole other = fl at I ⊢
  have e1 : ∀ n, (conv (co one) (co other) n + co more n) % p = (co fl.2 n + conv (co fl.1) (co other) n) % p := by
    intro n
    rw [← I.eq n, ← hw, co_cut, mm, co_addL, co_cut, co_mulL, am]
  -- the difference of the quotients
  have e2 : ∀ n, conv (fun i => co one i + -co fl.1 i) (co other) n = conv (co one) (co other) n - conv (co fl.1) (co other) n := by
    intro n
    rw [conv_add]
    have : conv (fun i => -co fl.1 i) (co other) n = -conv (co fl.1) (co other) n := by
      unfold conv
      generalize n + 1 = N
      induction N with
      | zero => rfl
      | succ N ih => simp only [sm]; rw [ih, Int.neg_mul]; omega
    rw [this]; omega
  generalize he : (fun i => co one i + -co fl.1 i) = e at e2
  have e3 : ∀ n, conv e (co other) n % p = (co fl.2 n - co more n) % p := by
    intro n
    rw [e2 n]
    have := e1 n
    have h1 : (conv (co one) (co other) n + co more n - (co fl.2 n + conv (co fl.1) (co other) n)) % p = 0 := Int.emod_eq_emod_iff_emod_sub_eq_zero.1 this
    have h2 : ((conv (co one) (co other) n - conv (co fl.1) (co other) n) - (co fl.2 n - co more n)) % p = 0 := by
      rw [← h1]; congr 1; omega
    exact Int.emod_eq_emod_iff_emod_sub_eq_zero.2 h2
  have far : ∀ i, max one.length fl.1.length ≤ i → e i = 0 := by
    intro i hi
    rw [← he]
    show co one i + -co fl.1 i = 0
    rw [co_far (by omega), co_far (by omega)]; rfl
  have zer : ∀ d i, max one.length fl.1.length ≤ i + d → e i % p = 0 := by
    intro d
    induction d with
    | zero => intro i hi; rw [far i (by omega)]; simp
    | succ d ih =>
      intro i hi
      have h1 : conv e (co other) (i + (other.length - 1)) % p = 0 := by
        rw [e3, Int.sub_emod, I.hi _ (by omega)]
        rw [co_far (l := more) (by omega)]; simp
      have h2 : conv e (co other) (i + (other.length - 1)) % p = (e i * co other (other.length - 1)) % p := by
        unfold conv
        have : sm (fun k => e k * sh (co other) k (i + (other.length - 1))) (i + (other.length - 1) + 1) % p
            = sm (fun k => if k = i then e i * co other (other.length - 1) else 0) (i + (other.length - 1) + 1) % p := by
          refine sm_mod fun k hk => ?_
          by_cases c : k = i
          · rw [if_pos c, c]
            have : sh (co other) i (i + (other.length - 1)) = co other (other.length - 1) := by
              unfold sh; rw [if_pos (by omega)]; congr 1; omega
            rw [this]
          · rw [if_neg c]
            by_cases c2 : k < i
            · have : sh (co other) k (i + (other.length - 1)) = 0 := by
                unfold sh; rw [if_pos (by omega)]; exact co_far (by omega)
              rw [this]; simp
            · rw [Int.mul_emod, ih k (by omega)]; simp
        rw [this, sm_one (m := i) (fun k hk => by simp [hk]) (by omega)]
        simp
      rw [h2] at h1
      have h3 : e i * co other (other.length - 1) * inv % p = 0 := by rw [Int.mul_emod, h1]; simp
      rw [Int.mul_assoc, Int.mul_comm _ inv, Int.mul_emod, hinv, ← Int.mul_emod, Int.mul_one] at h3
      exact h3
  have z2 : ∀ i, e i % p = 0 := fun i => zer (max one.length fl.1.length) i (by omega)
  refine el_ext hp (el_cut hp _) hm fun n => ?_
  show co _ n % p = co _ n % p
  rw [co_cut, mm]
  have h1 : conv e (co other) n % p = 0 := by
    rw [conv_mod (f' := fun _ => 0) (g' := co other) (fun n => by rw [z2 n]; simp) (fun _ => rfl), conv_nil]; simp
  rw [e3 n] at h1
  exact Int.emod_eq_emod_iff_emod_sub_eq_zero.2 h1
/-- sums, one part at a time first -/
theorem cut_add {p : Int} (hp : 0 < p) (a b : List Int) : cut p (addL a (cut p b)) = cut p (addL a b) :=
  el_ext hp (el_cut hp _) (el_cut hp _) fun n => by
    show co _ n % p = co _ n % p
    rw [co_cut, co_cut, mm, mm, co_addL, co_addL, co_cut, Int.add_emod, mm, ← Int.add_emod]
end Rw
/-! The rings and their elements, plainly. -/
namespace Lw
open PySem Dp
inductive Rg where
  | wh | py (p : Int)
inductive V where
  | n (i : Int) | f (l : List Int)
deriving DecidableEq
def V.i : V → Int
  | .n i => i | .f _ => 0
def V.l : V → List Int
  | .n _ => [] | .f l => l
def vD : V → D
  | .n i => .int i | .f l => .tup (iD l)
@[simp] theorem vD_n (i : Int) : vD (.n i) = .int i := rfl
@[simp] theorem vD_f (l : List Int) : vD (.f l) = .tup (iD l) := rfl
def Rg.ok : Rg → Prop
  | .wh => True | .py p => p = 2 ∨ p = 3 ∨ p = 5
def Rg.el : Rg → V → Prop
  | .wh, .n _ => True | .py p, .f l => Rw.El p l | _, _ => False
def V.sz : V → Nat
  | .n i => bits i | .f l => l.length
def Rg.zero : Rg → V
  | .wh => .n 0 | .py _ => .f []
def Rg.one : Rg → V
  | .wh => .n 1 | .py _ => .f [1]
def Rg.add : Rg → V → V → V
  | .wh, x, y => .n (x.i + y.i) | .py p, x, y => .f (Rw.cut p (Rw.addL x.l y.l))
def Rg.neg : Rg → V → V
  | .wh, x => .n (-x.i) | .py p, x => .f (Rw.cut p (x.l.map (- ·)))
def Rg.sub : Rg → V → V → V
  | .wh, x, y => .n (x.i - y.i) | .py p, x, y => .f (Rw.cut p (Rw.addL x.l (y.l.map (- ·))))
def Rg.mul : Rg → V → V → V
  | .wh, x, y => .n (x.i * y.i) | .py p, x, y => .f (Rw.cut p (Rw.mulL x.l y.l))
def Rg.ofInt : Rg → Int → V
  | .wh, k => .n k | .py p, k => .f (Rw.cut p [k])
/-- what turns a rest to 1 -/
def inv (p c : Int) : Int := (((List.range (p.toNat - 1)).map fun k : Nat => 1 + (k : Int)).filter fun x => decide (x * c % p = 1)).headD 0
def Rg.div : Rg → V → V → V × V
  | .wh, x, y => (.n ((x.i - x.i % y.i.natAbs).fdiv y.i), .n (x.i % y.i.natAbs))
  | .py p, x, y => (.f (Rw.cut p (Rw.divL p (inv p (Rw.co y.l (y.l.length - 1))) x.l y.l).1), .f (Rw.cut p (Rw.divL p (inv p (Rw.co y.l (y.l.length - 1))) x.l y.l).2))
/-- lesser than what it is a rest by -/
def Rg.rst : Rg → V → V → Prop
  | .wh, x, y => 0 ≤ x.i ∧ x.i < y.i.natAbs | .py _, x, y => x.l.length < y.l.length
theorem Rg.pos {p : Int} (h : (Rg.py p).ok) : 0 < p := by
  have h' : p = 2 ∨ p = 3 ∨ p = 5 := h
  omega
theorem el_wh {x : V} (h : Rg.wh.el x) : ∃ i, x = .n i := by
  cases x with
  | n i => exact ⟨i, rfl⟩
  | f l => exact h.elim
theorem el_by {p : Int} {x : V} (h : (Rg.py p).el x) : ∃ l, x = .f l ∧ Rw.El p l := by
  cases x with
  | n i => exact h.elim
  | f l => exact ⟨l, rfl, h⟩
theorem el_zero (r : Rg) : r.el r.zero := by
  cases r with
  | wh => trivial
  | py p => exact ⟨fun x hx => (by cases hx), rfl⟩
theorem el_one {r : Rg} (h : r.ok) : r.el r.one := by
  cases r with
  | wh => trivial
  | py p =>
    have h' : p = 2 ∨ p = 3 ∨ p = 5 := h
    refine ⟨fun x hx => ?_, rfl⟩
    simp at hx; omega
theorem el_add {r : Rg} (h : r.ok) (x y : V) : r.el (r.add x y) := by
  cases r with
  | wh => trivial
  | py p => exact Rw.el_cut (Rg.pos h) _
theorem el_sub {r : Rg} (h : r.ok) (x y : V) : r.el (r.sub x y) := by
  cases r with
  | wh => trivial
  | py p => exact Rw.el_cut (Rg.pos h) _
theorem el_neg {r : Rg} (h : r.ok) (x : V) : r.el (r.neg x) := by
  cases r with
  | wh => trivial
  | py p => exact Rw.el_cut (Rg.pos h) _
theorem el_mul {r : Rg} (h : r.ok) (x y : V) : r.el (r.mul x y) := by
  cases r with
  | wh => trivial
  | py p => exact Rw.el_cut (Rg.pos h) _
theorem el_ofInt {r : Rg} (h : r.ok) (k : Int) : r.el (r.ofInt k) := by
  cases r with
  | wh => trivial
  | py p => exact Rw.el_cut (Rg.pos h) _
theorem el_div {r : Rg} (h : r.ok) (x y : V) : r.el (r.div x y).1 ∧ r.el (r.div x y).2 := by
  cases r with
  | wh => exact ⟨trivial, trivial⟩
  | py p => exact ⟨Rw.el_cut (Rg.pos h) _, Rw.el_cut (Rg.pos h) _⟩
theorem addL_len (l m : List Int) : (Rw.addL l m).length = max l.length m.length := by
  unfold Rw.addL
  rw [List.length_zipWith, Rw.pad_len (Nat.le_max_left _ _), Rw.pad_len (Nat.le_max_right _ _), Nat.min_self]
theorem mulL_len (l m : List Int) : (Rw.mulL l m).length = l.length + m.length := by
  unfold Rw.mulL; rw [Rw.convGo_len]; simp
theorem sz_add (r : Rg) (x y : V) : (r.add x y).sz ≤ max x.sz y.sz + 1 := by
  cases r with
  | wh =>
    have h1 : bits x.i ≤ max x.sz y.sz := by
      cases x with
      | n i => exact Nat.le_max_left _ _
      | f l => exact Nat.zero_le _
    have h2 : bits y.i ≤ max x.sz y.sz := by
      cases y with
      | n i => exact Nat.le_max_right _ _
      | f l => exact Nat.zero_le _
    exact bits_add h1 h2
  | py p =>
    have h := Rw.cut_len p (Rw.addL x.l y.l)
    rw [addL_len] at h
    have h1 : x.l.length ≤ x.sz := by cases x <;> simp [V.l, V.sz]
    have h2 : y.l.length ≤ y.sz := by cases y <;> simp [V.l, V.sz]
    show (Rw.cut p (Rw.addL x.l y.l)).length ≤ _
    omega
theorem V.li (x : V) : x.l.length ≤ x.sz := by cases x <;> simp [V.l, V.sz]
theorem V.bi (x : V) : bits x.i ≤ x.sz := by
  cases x with
  | n i => exact Nat.le_refl _
  | f l => exact Nat.zero_le _
theorem sz_sub (r : Rg) (x y : V) : (r.sub x y).sz ≤ max x.sz y.sz + 1 := by
  cases r with
  | wh => exact bits_sub (Nat.le_trans x.bi (Nat.le_max_left _ _)) (Nat.le_trans y.bi (Nat.le_max_right _ _))
  | py p =>
    have h := Rw.cut_len p (Rw.addL x.l (y.l.map (- ·)))
    rw [addL_len, List.length_map] at h
    have h1 := x.li
    have h2 := y.li
    show (Rw.cut p _).length ≤ _
    omega
theorem sz_neg (r : Rg) (x : V) : (r.neg x).sz ≤ x.sz := by
  cases r with
  | wh => exact bits_neg x.bi
  | py p =>
    have h := Rw.cut_len p (x.l.map (- ·))
    rw [List.length_map] at h
    exact Nat.le_trans h x.li
theorem sz_mul (r : Rg) (x y : V) : (r.mul x y).sz ≤ x.sz + y.sz := by
  cases r with
  | wh => exact bits_mul x.bi y.bi
  | py p =>
    have h := Rw.cut_len p (Rw.mulL x.l y.l)
    rw [mulL_len] at h
    have h1 := x.li
    have h2 := y.li
    show (Rw.cut p _).length ≤ _
    omega
theorem divI_len (p : Int) (other : List Int) : ∀ (k : Nat) (inv : Int) (fl : List Int × List Int), (Rw.divGo p inv other k fl).1.length = fl.1.length ∧ (Rw.divGo p inv other k fl).2.length = fl.2.length
  | 0, _, _ => ⟨rfl, rfl⟩
  | k + 1, inv, fl => by
    have := divI_len p other k inv (Rw.divStep p inv other k fl)
    simp only [Rw.divGo]
    rw [this.1, this.2]
    simp only [Rw.divStep, List.length_set, Rw.rowGo_len]; exact ⟨trivial, trivial⟩
theorem divL_len (p inv : Int) (l m : List Int) : (Rw.divL p inv l m).1.length = l.length + 1 - m.length ∧ (Rw.divL p inv l m).2.length = l.length := by
  have := divI_len p m (l.length + 1 - m.length) inv (Rw.divFirst l m)
  unfold Rw.divL
  rw [this.1, this.2]
  simp [Rw.divFirst]
/-- what turns a rest to 1 is there -/
theorem inv_ok {p c : Int} (h : p = 2 ∨ p = 3 ∨ p = 5) (h0 : 0 < c) (h1 : c < p) : inv p c * c % p = 1 ∧ 0 ≤ inv p c ∧ inv p c < p ∧ (((List.range (p.toNat - 1)).map fun k : Nat => 1 + (k : Int)).filter fun x => decide (x * c % p = 1)).head? = some (inv p c) := by
  rcases h with rfl | rfl | rfl
  · have : c = 1 := by omega
    subst this; decide
  · have : c = 1 ∨ c = 2 := by omega
    rcases this with rfl | rfl <;> decide
  · have : c = 1 ∨ c = 2 ∨ c = 3 ∨ c = 4 := by omega
    rcases this with rfl | rfl | rfl | rfl <;> decide
theorem last_pos {p : Int} {l : List Int} (h : Rw.El p l) (hl : l ≠ []) : 0 < Rw.co l (l.length - 1) ∧ Rw.co l (l.length - 1) < p ∧ l.getLast? = some (Rw.co l (l.length - 1)) := by
  obtain ⟨m, x, rfl⟩ : ∃ m x, l = m ++ [x] := ⟨l.dropLast, l.getLast hl, (List.dropLast_concat_getLast hl).symm⟩
  have e : Rw.co (m ++ [x]) ((m ++ [x]).length - 1) = x := by simp [Rw.co]
  rw [e]
  have h1 := h.lo x (by simp)
  have h2 := Rw.tail_snoc h.tl
  exact ⟨by omega, h1.2, by simp⟩
theorem inv_mod {p : Int} {l : List Int} (h : (Rg.py p).ok) (hl : Rw.El p l) (h0 : l ≠ []) : inv p (Rw.co l (l.length - 1)) * Rw.co l (l.length - 1) % p = 1 % p := by
  have h1 := last_pos hl h0
  have h2 : p = 2 ∨ p = 3 ∨ p = 5 := h
  rw [(inv_ok h2 h1.1 h1.2.1).1]
  rcases h2 with rfl | rfl | rfl <;> rfl
/-- the division -/
theorem div_is {r : Rg} (h : r.ok) {x y : V} (hx : r.el x) (hy : r.el y) (h0 : y ≠ r.zero) : r.add (r.mul (r.div x y).1 y) (r.div x y).2 = x ∧ r.rst (r.div x y).2 y := by
  cases r with
  | wh =>
    obtain ⟨a, rfl⟩ := el_wh hx
    obtain ⟨b, rfl⟩ := el_wh hy
    have hb : b ≠ 0 := fun e => h0 (by rw [e]; rfl)
    simp only [Rg.add, Rg.mul, Rg.div, Rg.rst, V.i]
    have hd : b ∣ a - a % (b.natAbs : Int) := by
      refine Int.natAbs_dvd.mp ⟨a / b.natAbs, ?_⟩
      have := Int.emod_add_mul_ediv a (b.natAbs : Int)
      omega
    refine ⟨?_, Int.emod_nonneg _ (by omega), Int.emod_lt_of_pos _ (by omega)⟩
    rw [Int.fdiv_mul_cancel hd]
    congr 1; omega
  | py p =>
    obtain ⟨a, rfl, ha⟩ := el_by hx
    obtain ⟨b, rfl, hb⟩ := el_by hy
    have hb0 : b ≠ [] := fun e => h0 (by rw [e]; rfl)
    have hl : 0 < b.length := by
      cases b with
      | nil => exact absurd rfl hb0
      | cons => simp
    simp only [Rg.add, Rg.mul, Rg.div, Rg.rst, V.l]
    exact ⟨congrArg V.f (Rw.div_eq (Rg.pos h) ha hl (inv_mod h hb hb0)), Rw.div_short hl (inv_mod h hb hb0)⟩
/-- the rest of a multiple and a rest -/
theorem div_rst {r : Rg} (h : r.ok) {x y z : V} (hx : r.el x) (hy : r.el y) (hz : r.el z) (h0 : y ≠ r.zero) (hr : r.rst z y) : (r.div (r.add (r.mul x y) z) y).2 = z := by
  cases r with
  | wh =>
    obtain ⟨a, rfl⟩ := el_wh hx
    obtain ⟨b, rfl⟩ := el_wh hy
    obtain ⟨c, rfl⟩ := el_wh hz
    simp only [Rg.add, Rg.mul, Rg.div, Rg.rst, V.i] at hr ⊢
    congr 1
    have : (a * b + c) % (b.natAbs : Int) = c % (b.natAbs : Int) := by
      have hd : (b.natAbs : Int) ∣ a * b := Int.dvd_trans (Int.natAbs_dvd.mpr (Int.dvd_refl b)) (Int.dvd_mul_left _ _)
      obtain ⟨k, hk⟩ := hd
      rw [hk, Int.add_comm, Int.add_mul_emod_self_left]
    rw [this, Int.emod_eq_of_lt hr.1 hr.2]
  | py p =>
    obtain ⟨a, rfl, ha⟩ := el_by hx
    obtain ⟨b, rfl, hb⟩ := el_by hy
    obtain ⟨c, rfl, hc⟩ := el_by hz
    have hb0 : b ≠ [] := fun e => h0 (by rw [e]; rfl)
    have hl : 0 < b.length := by
      cases b with
      | nil => exact absurd rfl hb0
      | cons => simp
    simp only [Rg.add, Rg.mul, Rg.div, Rg.rst, V.l] at hr ⊢
    exact congrArg V.f (Rw.div_one (Rg.pos h) hc hr hl (inv_mod h hb hb0))
end Lw
/-! The ring's own defs. -/
namespace Lw
open PySem Dp
theorem cmpD_map {W : Wd} {w : List Nat} {t : T} {cs : List E} {e : E} {ρ : Rho} {xs : List D} (G : D → D) (hw : wOk ρ w = true) (hl : xs.length ≤ 16777216) (h : ∀ x ∈ xs, cst W w t cs e (wipeR ρ w) x = some (some (G x), wipeR ρ w)) :
    cmpQ W w t cs e xs ρ = .ok (.fr (.lst (xs.map G)), unwipe ρ (wipeR ρ w) w) := by
  have := cmp_map (W := W) (w := w) (t := t) (cs := cs) (e := e) (ρ := ρ) id xs G hw hl h
  rwa [List.map_id] at this
/-- plain data of a depth to n, a weight to w -/
def Wt (n w : Nat) (d : D) : Prop := ∃ p, d.toPy = some p ∧ p.depth ≤ n ∧ p.weight ≤ w
def WtL (n w : Nat) (ds : List D) : Prop := ∃ ps, D.toPy.toPyL ds = some ps ∧ PyData.depthAll ps ≤ n ∧ PyData.weightAll ps ≤ w
theorem Wt.of {n w : Nat} {d : D} (h : Sh n w d) : Wt n w d := by
  obtain ⟨p, h⟩ := h
  exact ⟨p, h.py, h.dep, h.wei⟩
theorem Wt.mono {n m w v : Nat} {d : D} (h : Wt n w d) (hn : n ≤ m) (hw : w ≤ v) : Wt m v d := by
  obtain ⟨p, h1, h2, h3⟩ := h
  exact ⟨p, h1, by omega, by omega⟩
theorem wtL_mem {n w : Nat} : ∀ {ds : List D}, WtL n w ds → ds.length ≤ w ∧ ∀ d ∈ ds, Wt n w d
  | [], _ => ⟨Nat.zero_le _, fun d hd => by cases hd⟩
  | e :: ds, ⟨ps, h1, h3, h6⟩ => by
    simp only [D.toPy.toPyL] at h1
    split at h1
    · rename_i p ps1 g1 g2
      cases h1
      simp only [PyData.depthAll] at h3
      simp only [PyData.weightAll] at h6
      have ih := wtL_mem (n := n) (w := w - 1) ⟨ps1, g2, by omega, by omega⟩
      refine ⟨by simp only [List.length_cons]; omega, fun d hd => ?_⟩
      rcases List.mem_cons.1 hd with rfl | hd
      · exact ⟨p, g1, by omega, by omega⟩
      · exact (ih.2 d hd).mono (Nat.le_refl _) (by omega)
    · cases h1
theorem wt_tup {n w : Nat} {ds : List D} (h : Wt n w (.tup ds)) : ∃ k, n = k + 1 ∧ WtL k w ds := by
  obtain ⟨p, h1, h2, h3⟩ := h
  simp only [D.toPy, Option.map_eq_some_iff] at h1
  obtain ⟨ps, h1, rfl⟩ := h1
  simp only [PyData.depth] at h2
  simp only [PyData.weight] at h3
  exact ⟨n - 1, by omega, ps, h1, by omega, h3⟩
theorem wt_lst {n w : Nat} {ds : List D} (h : Wt n w (.lst ds)) : ∃ k, n = k + 1 ∧ WtL k w ds := by
  obtain ⟨p, h1, h2, h3⟩ := h
  simp only [D.toPy, Option.map_eq_some_iff] at h1
  obtain ⟨ps, h1, rfl⟩ := h1
  simp only [PyData.depth] at h2
  simp only [PyData.weight] at h3
  exact ⟨n - 1, by omega, ps, h1, by omega, h3⟩
/-- what anew hands back -/
def anw : D → Res
  | .lst xs => .fr (.lst xs) | d => .sh d
theorem anw_d (d : D) : (anw d).d = d := by cases d <;> rfl
def obD : Rg → D
  | .wh => .ins 4 [(1, .int 0), (2, .int 1)] | .py p => .ins 5 [(3, .int p), (1, .tup []), (2, .tup [.int 1])]
def rgD : Rg → D
  | .wh => .tup [.str "whole"] | .py p => .tup [.str "by", .int p]
section
variable (W : Wd) (mm : Nat) (as : List Ar) (v : AV) (ρ : Rho) (fok : Nat → Nat → Bool) (eok : Nat → Bool) (p : Int)
@[simp] theorem kM2_wh : kM2 W mm as v ρ (some (obD .wh)) = kM3 W as v ρ (W.meth 4 mm) := rfl
@[simp] theorem kM2_py : kM2 W mm as v ρ (some (obD (.py p))) = kM3 W as v ρ (W.meth 5 mm) := rfl
@[simp] theorem fld_w1 : fldD fok eok 1 (obD .wh) = if fok 4 1 then some (.int 0) else none := by simp [obD, fldD_1, List.lookup]
@[simp] theorem fld_w2 : fldD fok eok 2 (obD .wh) = if fok 4 2 then some (.int 1) else none := by simp [obD, fldD_1, List.lookup]
@[simp] theorem fld_p3 : fldD fok eok 3 (obD (.py p)) = if fok 5 3 then some (.int p) else none := by simp [obD, fldD_1, List.lookup]
@[simp] theorem fld_p1 : fldD fok eok 1 (obD (.py p)) = if fok 5 1 then some (.tup []) else none := by simp [obD, fldD_1, List.lookup]
@[simp] theorem fld_p2 : fldD fok eok 2 (obD (.py p)) = if fok 5 2 then some (.tup [.int 1]) else none := by simp [obD, fldD_1, List.lookup]
end
/-- the ring's core -/
structure G1 (pr : Pr) : Prop where
  h0 : pr.defs 0 = some d_0
  h1 : pr.defs 1 = some d_1
  h3 : pr.defs 3 = some d_3
  h6 : pr.defs 6 = some d_6
  h7 : pr.defs 7 = some d_7
  h11 : pr.defs 11 = some d_11
  h13 : pr.defs 13 = some d_13
  h14 : pr.defs 14 = some d_14
  h15 : pr.defs 15 = some d_15
  h19 : pr.defs 19 = some d_19
  h20 : pr.defs 20 = some d_20
  h22 : pr.defs 22 = some d_22
  h23 : pr.defs 23 = some d_23
  h25 : pr.defs 25 = some d_25
  h26 : pr.defs 26 = some d_26
  i4 : pr.init 4 = some 6
  i5 : pr.init 5 = some 13
  m40 : pr.meth 4 0 = some 7
  m44 : pr.meth 4 4 = some 11
  m50 : pr.meth 5 0 = some 14
  m54 : pr.meth 5 4 = some 19
  m56 : pr.meth 5 6 = some 15
  m57 : pr.meth 5 7 = some 20
  f41 : pr.fok 4 1 = true
  f42 : pr.fok 4 2 = true
  f51 : pr.fok 5 1 = true
  f52 : pr.fok 5 2 = true
  f53 : pr.fok 5 3 = true
section
variable {pr : Pr} (g : G1 pr) {m : Nat}
include g
/-- an integer, no truth -/
def isInt : D → Bool
  | .int _ => true | _ => false
/-- data, no object -/
def dat : D → Bool
  | .ins _ _ => false | .exc _ _ => false | .scr _ => false | _ => true
theorem sp_0 (h : 1 ≤ m) (d : D) (hd : dat d = true) : callP pr m 0 [.sh d] = .ok (.sh (.bl (isInt d))) [.no] := by
  refine ent 0 d_0 g.h0 rfl h fun n _ => ?_
  cases d <;> simp_all [d_0, isInt, dat]
theorem sp_1 (h : 2 ≤ m) (i a b : Int) : callP pr m 1 [.sh (.int i), .sh (.int a), .sh (.int b)] = .ok (.sh (.bl (decide (a ≤ i) && decide (i ≤ b)))) [.no, .no, .no] := by
  refine ent 1 d_1 g.h1 rfl h fun n hn => ?_
  by_cases h1 : a ≤ i <;> simp [d_1, sp_0 g hn (.int i) rfl, isInt, h1]
theorem sp_1n (h : 2 ≤ m) (d : D) (hd : dat d = true) (hi : isInt d = false) (a b : Int) : callP pr m 1 [.sh d, .sh (.int a), .sh (.int b)] = .ok (.sh (.bl false)) [.no, .no, .no] := by
  refine ent 1 d_1 g.h1 rfl h fun n hn => ?_
  simp [d_1, sp_0 g hn d hd, hi]
theorem sp_6 (h : 1 ≤ m) : callP pr m 6 [.io (.ins 4 [])] = .ok (.sh .non) [.io (obD .wh)] := by
  refine ent 0 d_6 g.h6 rfl h fun n _ => ?_
  simp [d_6, obD, g.f41, g.f42]
theorem sp_13 (h : 1 ≤ m) (p : Int) : callP pr m 13 [.io (.ins 5 []), .sh (.int p)] = .ok (.sh .non) [.io (obD (.py p)), .no] := by
  refine ent 0 d_13 g.h13 rfl h fun n _ => ?_
  simp [d_13, obD, g.f51, g.f52, g.f53]
theorem sp_7 (h : 2 ≤ m) (s d : D) (hd : dat d = true) : callP pr m 7 [.sh s, .sh d] = .ok (.sh (.bl (isInt d))) [.no, .no] := by
  refine ent 1 d_7 g.h7 rfl h fun n hn => ?_
  simp [d_7, sp_0 g hn d hd]
theorem sp_3 (w : Nat) (hw : w ≤ 1000000) : ∀ (k : Nat) {m : Nat} (h : k + 1 ≤ m) (d : D) (hd : Wt k w d), callP pr m 3 [.sh d] = .ok (anw d) [.no] := by
  intro k
  induction k with
  | zero =>
    intro m h d hd
    refine ent 0 d_3 g.h3 rfl h fun n _ => ?_
    cases d with
    | tup xs => obtain ⟨k, hk, _⟩ := wt_tup hd; omega
    | lst xs => obtain ⟨k, hk, _⟩ := wt_lst hd; omega
    | ins c fs => obtain ⟨p, h1⟩ := hd; cases h1.1
    | exc c fs => obtain ⟨p, h1⟩ := hd; cases h1.1
    | scr c => obtain ⟨p, h1⟩ := hd; cases h1.1
    | _ => simp [d_3, anw]
  | succ k ih =>
    intro m h d hd
    refine ent (k + 1) d_3 g.h3 rfl h fun n hn => ?_
    cases d with
    | tup xs =>
      obtain ⟨k', hk, hp⟩ := wt_tup hd
      obtain rfl : k = k' := by omega
      obtain ⟨h1, h2⟩ := wtL_mem hp
      simp [d_3, anw]
      rw [cmpD_map id (by simp) (by omega)]
      · simp
      · intro x hx
        simp [ih hn x (h2 x hx), anw_d]
    | lst xs =>
      obtain ⟨k', hk, hp⟩ := wt_lst hd
      obtain rfl : k = k' := by omega
      obtain ⟨h1, h2⟩ := wtL_mem hp
      simp [d_3, anw]
      rw [cmpD_map id (by simp) (by omega)]
      · simp
      · intro x hx
        simp [ih hn x (h2 x hx), anw_d]
    | ins c fs => obtain ⟨p, h1⟩ := hd; cases h1.1
    | exc c fs => obtain ⟨p, h1⟩ := hd; cases h1.1
    | scr c => obtain ⟨p, h1⟩ := hd; cases h1.1
    | _ => simp [d_3, anw]
end
end Lw
/-! Rows by a prime: trimmed, times, back. -/
namespace Lw
open PySem Dp
def trimC (l : List Int) : Bool := match l.getLast? with
  | some x => decide (x = 0) | none => false
theorem wh_trim : ∀ (n : Nat) (l : List Int), l.length ≤ n → wh trimC List.dropLast n l = Rw.trim l
  | 0, l, h => by
    have : l = [] := List.eq_nil_of_length_eq_zero (by omega)
    subst this; rfl
  | n + 1, l, h => by
    rcases List.eq_nil_or_concat l with rfl | ⟨m, x, rfl⟩
    · simp [wh, trimC, Rw.trim]
    · simp only [List.length_append, List.length_cons, List.length_nil, List.concat_eq_append] at h ⊢
      rw [Rw.trim_snoc, wh]
      have e : trimC (m ++ [x]) = decide (x = 0) := by simp [trimC]
      rw [e]
      by_cases c : x = 0
      · simp only [c, decide_true, if_true, List.dropLast_concat]
        exact wh_trim n m (by omega)
      · simp [c]
theorem rowGo_snoc (a : Int) : ∀ (ys l : List Int) (i : Nat) (y : Int), Rw.rowGo l i a (ys ++ [y]) = Rw.bump (Rw.rowGo l i a ys) (i + ys.length) (a * y)
  | [], l, i, y => rfl
  | z :: ys, l, i, y => by
    simp only [List.cons_append, Rw.rowGo, rowGo_snoc a ys, List.length_cons]
    congr 1; omega
theorem convGo_snoc (ys : List Int) : ∀ (xs l : List Int) (i : Nat) (x : Int), Rw.convGo l i ys (xs ++ [x]) = Rw.rowGo (Rw.convGo l i ys xs) (i + xs.length) x ys
  | [], l, i, x => rfl
  | z :: xs, l, i, x => by
    simp only [List.cons_append, Rw.convGo, convGo_snoc ys xs, List.length_cons]
    congr 1; omega
theorem take_snoc {l : List Int} {j : Nat} (h : j < l.length) : l.take (j + 1) = l.take j ++ [l[j]] := by
  rw [List.take_succ, List.getElem?_eq_getElem h]; rfl
theorem co_get {l : List Int} {i : Nat} (h : i < l.length) : l[i]? = some (Rw.co l i) := by
  simp [Rw.co, h]
section
variable {pr : Pr} (g : G1 pr) {m : Nat}
include g
theorem sp_15 (h : 1 ≤ m) {p : Int} (hp : 0 < p) (xs : List Int) (hx : xs.length ≤ 16000000) :
    callP pr m 15 [.sh (obD (.py p)), .sh (.lst (iD xs))] = .ok (.sh (.tup (iD (Rw.cut p xs)))) [.no, .no] := by
  refine ent 0 d_15 g.h15 rfl h fun n _ => ?_
  simp [d_15]
  rw [cmpI_map (fun a => a % p) (by simp) (by omega) (fun a _ => by simp [bop_mod hp, g.f53])]
  simp
  rw [whl_fold (I := fun _ => True) (mk := fun ρ l => ρ.set 2 (.ow (.lst (iD l)))) (cd := trimC) (f := List.dropLast) (μ := List.length) (s := xs.map (· % p)) (by rfl) trivial]
  · rw [wh_trim _ _ (Nat.le_refl _)]
    simp [Rw.cut]
  · intro l _
    rcases List.eq_nil_or_concat l with rfl | ⟨m, x, rfl⟩
    · simp [trimC]
    · simp [trimC, iD_app, iD_cons]
  · intro l _ hc
    have hl : l ≠ [] := by rintro rfl; simp [trimC] at hc
    refine ⟨?_, trivial, by rw [List.length_dropLast]; have := List.length_pos_iff.mpr hl; omega⟩
    have e : (iD l).dropLast = iD l.dropLast := by simp [iD, List.map_dropLast]
    simp [pop_l (xs := iD l) (by simpa [iD] using hl), e]
/-- the inner loop of a product -/
theorem row_loop {W : Wd} (ys l : List Int) (i : Nat) (a : Int) (hl : i + ys.length ≤ l.length) (hm : ∀ y ∈ ys, mulOk a y = true) (s0 s1 s2 : Slot) (q6 q7 : J) :
    ∃ p6 p7 : J, forQ W (.tp [.nm 6, .nm 7]) [.augIx .add 3 (.bin .add (.slot 4) (.slot 6)) (.bin .mul (.slot 5) (.slot 7))] (enD ys) [s0, s1, s2, .ow (.lst (iD l)), .sh (.int i), .sh (.int a), jS q6, jS q7]
      = .nx [s0, s1, s2, .ow (.lst (iD (Rw.rowGo l i a ys))), .sh (.int i), .sh (.int a), jS p6, jS p7] := by
  refine ⟨if ys.length = 0 then q6 else some (.sh (.int ((ys.length : Int) - 1))), if h : ys.length = 0 then q7 else some (.sh (.int (Rw.co ys (ys.length - 1)))), ?_⟩
  rw [forE_idx (mk := fun ρ j => [s0, s1, s2, .ow (.lst (iD (Rw.rowGo l i a (ys.take j)))), .sh (.int i), .sh (.int a), jS (if j = 0 then q6 else some (.sh (.int ((j : Int) - 1)))), jS (if j = 0 then q7 else some (.sh (.int (Rw.co ys (j - 1)))))])]
  · simp
  · simp [Rw.rowGo]
  · intro j hj
    have hlen : i + j < (Rw.rowGo l i a (ys.take j)).length := by rw [Rw.rowGo_len]; omega
    have e1 : (i : Int) + (j : Int) = ((i + j : Nat) : Int) := by omega
    have hy : mulOk a ys[j] = true := hm _ (List.getElem_mem hj)
    have hc : Rw.co ys j = ys[j] := by simp [Rw.co, hj]
    rw [take_snoc hj, rowGo_snoc]
    have f1 : ixD (.lst (iD (Rw.rowGo l i a (ys.take j)))) (.int ((i : Int) + (j : Int))) = some (.int (Rw.co (Rw.rowGo l i a (ys.take j)) (i + j))) := by rw [e1, ixi_nat, co_get hlen]; rfl
    have f2 : ∀ v, setAt (.int ((i : Int) + (j : Int))) (.int v) (.lst (iD (Rw.rowGo l i a (ys.take j)))) = some (.lst (iD ((Rw.rowGo l i a (ys.take j)).set (i + j) v))) := fun v => by rw [e1, set_i hlen]
    simp [bop_mul _ _ hy, f1, f2, Rw.bump, Nat.min_eq_left (Nat.le_of_lt hj), jS_1, hc]
theorem sp_19 (h : 2 ≤ m) {p : Int} (hp : 0 < p) (xs ys : List Int) (hb : ∀ x ∈ xs, ∀ y ∈ ys, mulOk x y = true) (hl : xs.length + ys.length ≤ 16000000) :
    callP pr m 19 [.sh (obD (.py p)), .sh (.tup (iD xs)), .sh (.tup (iD ys))] = .ok (.sh (.tup (iD (Rw.cut p (Rw.mulL xs ys))))) [.no, .no, .no] := by
  refine ent 1 d_19 g.h19 rfl h fun n hn => ?_
  have f0 := mul_lz 0 (z := (xs.length : Int) + (ys.length : Int)) (k := xs.length + ys.length) (by omega) (by omega)
  have e1 := mulL_len xs ys
  simp [d_19, f0]
  let J : Nat → Rho → Prop := fun j ρ => ∃ q4 q5 q6 q7 : J, ρ = [.sh (obD (.py p)), .sh (.tup (iD xs)), .sh (.tup (iD ys)), .ow (.lst (iD (Rw.convGo (List.replicate (xs.length + ys.length) 0) 0 ys (xs.take j)))), jS q4, jS q5, jS q6, jS q7]
  refine seq_ex (I := J xs.length) (forE_ex J ⟨none, none, none, none, rfl⟩ ?_) ?_
  · rintro j hj _ ⟨q4, q5, q6, q7, rfl⟩
    obtain ⟨p6, p7, e⟩ := row_loop g (W := pr.wd (callP pr n)) ys (Rw.convGo (List.replicate (xs.length + ys.length) 0) 0 ys (xs.take j)) j xs[j] (by rw [Rw.convGo_len]; simp; omega) (hb _ (List.getElem_mem hj))
      (.sh (obD (.py p))) (.sh (.tup (iD xs))) (.sh (.tup (iD ys))) q6 q7
    refine ⟨_, by simp [e]; rfl, some (.sh (.int j)), some (.sh (.int xs[j])), p6, p7, ?_⟩
    rw [take_snoc hj, convGo_snoc, List.length_take, Nat.min_eq_left (Nat.le_of_lt hj), Nat.zero_add]
    rfl
  · rintro _ ⟨q4, q5, q6, q7, rfl⟩
    rw [List.take_length, show Rw.convGo (List.replicate (xs.length + ys.length) 0) 0 ys xs = Rw.mulL xs ys from rfl]
    have t := sp_15 g hn hp (Rw.mulL xs ys) (by omega)
    simp [g.m56, t]
theorem sp_11 (h : 1 ≤ m) (s : D) (i j : Int) (hb : mulOk i j = true) : callP pr m 11 [.sh s, .sh (.int i), .sh (.int j)] = .ok (.sh (.int (i * j))) [.no, .no, .no] := by
  refine ent 0 d_11 g.h11 rfl h fun n hn => ?_
  simp [d_11, bop_mul _ _ hb]
theorem sp_20 (h : 1 ≤ m) {p : Int} (hp : p = 2 ∨ p = 3 ∨ p = 5) (c : Int) (h0 : 0 < c) (h1 : c < p) :
    callP pr m 20 [.sh (obD (.py p)), .sh (.int c)] = .ok (.sh (.int (inv p c))) [.no, .no] := by
  refine ent 0 d_20 g.h20 rfl h fun n hn => ?_
  have hr : itB .rng [.int 1, .int p] = some ((List.range (p.toNat - 1)).map fun k : Nat => .int (1 + (k : Int))) := by
    have a : rOk 1 = true := by decide
    have b : rOk p = true := by rcases hp with rfl | rfl | rfl <;> decide
    have e : (p - 1).toNat = p.toNat - 1 := by omega
    simp only [itB, a, b, Bool.and_self, if_true, rngL, e]
  have hpp : 0 < p := by omega
  have hm : ∀ x : Int, 0 ≤ x → x < 6 → mulOk x c = true := fun x hx hx' => mulOk_b (a := 3) (b := 3) (bits_lt (by omega)) (bits_lt (by omega)) (by decide)
  simp [d_20, g.f53, hr]
  rw [cmp_filter (fun k : Nat => D.int (1 + (k : Int))) (List.range (p.toNat - 1)) (fun k => decide ((1 + (k : Int)) * c % p = 1)) (fun k => .int (1 + (k : Int))) (by simp) (by simp; omega)]
  · have e := (inv_ok hp h0 h1).2.2.2
    rw [List.filter_map] at e
    have e2 : (List.filter (fun k : Nat => decide ((1 + (k : Int)) * c % p = 1)) (List.range (p.toNat - 1))).map (fun k : Nat => D.int (1 + (k : Int))) = iD (((List.range (p.toNat - 1)).filter ((fun x => decide (x * c % p = 1)) ∘ fun k : Nat => 1 + (k : Int))).map fun k : Nat => 1 + (k : Int)) := by
      simp [iD, Function.comp_def]
    rw [e2]
    have e3 : ∀ l : List Int, l.head? = some (inv p c) → ixD (.lst (iD l)) (.int 0) = some (.int (inv p c)) := by
      intro l hl
      cases l with
      | nil => cases hl
      | cons x l => simp at hl; subst hl; simp [iD_cons]
    simp [e3 _ e]
  · intro a ha
    have ha' := List.mem_range.1 ha
    have := hm (1 + (a : Int)) (by omega) (by omega)
    by_cases c1 : (1 + (a : Int)) * c % p = 1 <;> simp [bop_mul _ _ this, bop_mod hpp, g.f53, c1]
end
end Lw
/-! Elements known, sums, division. -/
namespace Lw
open PySem Dp
/-- plus, less, parted_by -/
structure G2 (pr : Pr) : Prop where
  h9 : pr.defs 9 = some d_9
  h10 : pr.defs 10 = some d_10
  h12 : pr.defs 12 = some d_12
  h17 : pr.defs 17 = some d_17
  h18 : pr.defs 18 = some d_18
  h21 : pr.defs 21 = some d_21
  m42 : pr.meth 4 2 = some 9
  m43 : pr.meth 4 3 = some 10
  m45 : pr.meth 4 5 = some 12
  m52 : pr.meth 5 2 = some 17
  m53 : pr.meth 5 3 = some 18
  m55 : pr.meth 5 5 = some 21
theorem rng_down (n : Nat) (hn : n ≤ 1000000) {z : Int} (hz : (z + 1).toNat = n) (hz2 : -1000000 ≤ z) : itB .rng [.int z, .int (-1), .int (-1)] = some ((List.range n).map fun t : Nat => .int (z - (t : Int))) := by
  have e : Builtin.Range.rangeSize z (-1) (-1) = (n : Int) := by
    unfold Builtin.Range.rangeSize
    rw [if_neg (by omega)]
    by_cases h : z > -1
    · rw [if_pos h]; simp; omega
    · rw [if_neg h]; omega
  have s : Builtin.Range.small z (-1) (-1) = true := by
    have f : ∀ x : Int, -2000000 ≤ x → x ≤ 2000000 → Builtin.Range.rangeFitsLong x = true := fun x h1 h2 => by
      unfold Builtin.Range.rangeFitsLong; simp; omega
    unfold Builtin.Range.small
    rw [e, f z (by omega) (by omega), f (-1) (by decide) (by decide), f n (by omega) (by omega), if_neg (by decide), f (-1 + (-1 + 1)) (by decide) (by decide)]
    simp
  have a : (decide ((-1 : Int) ≠ 0) && decide ((-1 : Int).natAbs < 1073741824)) = true := by decide
  have b : ((n : Int) = ((n : Int).toNat : Int)) := by simp
  simp only [itB, rng3, e, s, a, Bool.true_and, decide_eq_true b, if_true, Int.toNat_natCast]
  refine congrArg some (List.map_congr_left fun k _ => ?_)
  congr 1; omega
/-- an integer from 0 to less than p -/
def okI (p : Int) : D → Bool
  | .int i => decide (0 ≤ i) && decide (i ≤ p - 1) | _ => false
/-- an element of the rows by p -/
def hasB (p : Int) : D → Bool
  | .tup xs => xs.all (okI p) && (match xs.getLast? with
    | some (.int i) => decide (i ≠ 0) | _ => true)
  | _ => false
def datL : D → Bool
  | .tup xs => xs.all dat && decide (xs.length ≤ 1000000) | d => dat d
theorem okI_i (p : Int) (xs : List Int) : (iD xs).all (okI p) = xs.all fun i => decide (0 ≤ i) && decide (i ≤ p - 1) := by
  simp [iD, List.all_map, Function.comp_def, okI]
theorem hasB_el {p : Int} {l : List Int} (h : Rw.El p l) : hasB p (.tup (iD l)) = true := by
  have h1 : (l.all fun i => decide (0 ≤ i) && decide (i ≤ p - 1)) = true := by
    rw [List.all_eq_true]
    intro x hx
    have := h.lo x hx
    simp; omega
  simp only [hasB, okI_i, h1, Bool.true_and, iD_last]
  rcases List.eq_nil_or_concat l with rfl | ⟨m, x, rfl⟩
  · rfl
  · have := Rw.tail_snoc (by simpa using h.tl)
    simp [this]
theorem divGo_snoc (p inv : Int) (o : List Int) (N : Nat) (st : Nat → List Int × List Int) (h : ∀ t, t < N → st (t + 1) = Rw.divStep p inv o (N - 1 - t) (st t)) : ∀ t, t ≤ N → Rw.divGo p inv o (N - t) (st t) = Rw.divGo p inv o N (st 0) := by
  intro t
  induction t with
  | zero => intro _; rfl
  | succ t ih =>
    intro ht
    rw [← ih (by omega), h t (by omega), show N - t = (N - (t + 1)) + 1 by omega, Rw.divGo]
    congr 2; omega
/-- the states of a division -/
def dvS (p inv : Int) (o : List Int) (N : Nat) (fl : List Int × List Int) : Nat → List Int × List Int
  | 0 => fl
  | t + 1 => Rw.divStep p inv o (N - 1 - t) (dvS p inv o N fl t)
theorem dvS_end (p inv : Int) (o : List Int) (N : Nat) (fl : List Int × List Int) : dvS p inv o N fl N = Rw.divGo p inv o N fl := by
  have := divGo_snoc p inv o N (dvS p inv o N fl) (fun t _ => rfl) N (Nat.le_refl _)
  rw [Nat.sub_self] at this
  exact this
theorem dvS_len (p inv : Int) (o : List Int) (N : Nat) (fl : List Int × List Int) : ∀ t, (dvS p inv o N fl t).1.length = fl.1.length ∧ (dvS p inv o N fl t).2.length = fl.2.length
  | 0 => ⟨rfl, rfl⟩
  | t + 1 => by
    have := dvS_len p inv o N fl t
    simp only [dvS, Rw.divStep, List.length_set, Rw.rowGo_len]; exact this
section
variable {pr : Pr} (g : G1 pr) {m : Nat}
include g
theorem sp_14 (h : 3 ≤ m) (p : Int) (d : D) (hd : datL d = true) : callP pr m 14 [.sh (obD (.py p)), .sh d] = .ok (.sh (.bl (hasB p d))) [.no, .no] := by
  refine ent 2 d_14 g.h14 rfl h fun n hn => ?_
  cases d with
  | tup xs =>
    simp only [datL, Bool.and_eq_true, decide_eq_true_eq, List.all_eq_true] at hd
    simp [d_14, g.f53]
    rw [cmpD_map (fun x => .bl (okI p x)) (by simp) (by omega)]
    · simp
      rw [all_l (okI p) xs]
      cases ha : xs.all (okI p) with
      | false => simp [hasB, ha]
      | true =>
        rcases List.eq_nil_or_concat xs with rfl | ⟨ys, y, rfl⟩
        · simp [hasB]
        · rw [List.concat_eq_append] at ha ⊢
          have hy : okI p y = true := List.all_eq_true.1 ha y (by simp)
          cases y <;> simp only [okI, Bool.false_eq_true] at hy
          rename_i i
          by_cases hi : i = 0 <;> simp [hasB, ha, hi]
    · intro x hx
      have hx' := hd.1 x hx
      cases x with
      | int i => simp [g.f53, sp_1 g hn i 0 (p - 1), okI]
      | _ => first | (simp [dat] at hx'; done) | simp [g.f53, sp_1n g hn _ hx' rfl 0 (p - 1), okI]
  | ins c fs => cases hd
  | exc c fs => cases hd
  | scr c => cases hd
  | _ => simp [d_14, hasB]
variable (g2 : G2 pr)
include g2
/-- a sum of rows -/
theorem sp_17 (h : 2 ≤ m) {p : Int} (hp : 0 < p) (xs ys : List Int) (hx : xs.length ≤ 1000000) (hy : ys.length ≤ 1000000) :
    callP pr m 17 [.sh (obD (.py p)), .sh (.tup (iD xs)), .sh (.tup (iD ys))] = .ok (.sh (.tup (iD (Rw.cut p (Rw.addL xs ys))))) [.no, .no, .no] := by
  refine ent 1 d_17 g2.h17 rfl h fun n hn => ?_
  have e0 : max (xs.length : Int) (ys.length : Int) = ((max xs.length ys.length : Nat) : Int) := by omega
  have z1 := mul_lz 0 (z := max (xs.length : Int) (ys.length : Int) - (xs.length : Int)) (k := max xs.length ys.length - xs.length) (by omega) (by omega)
  have z2 := mul_lz 0 (z := max (xs.length : Int) (ys.length : Int) - (ys.length : Int)) (k := max xs.length ys.length - ys.length) (by omega) (by omega)
  have a1 := add_li (xs := xs) (ys := List.replicate (max xs.length ys.length - xs.length) 0) (by simp; omega)
  have a2 := add_li (xs := ys) (ys := List.replicate (max xs.length ys.length - ys.length) 0) (by simp; omega)
  have t := sp_15 g hn hp (Rw.addL xs ys) (by rw [addL_len]; omega)
  simp [d_17, z1, z2, a1, a2, g.m56]
  rw [cmpZ_map (· + ·) (by simp) (by simp; omega) (fun a b => by simp)]
  have e : List.zipWith (· + ·) (xs ++ List.replicate (max xs.length ys.length - xs.length) 0) (ys ++ List.replicate (max xs.length ys.length - ys.length) 0) = Rw.addL xs ys := rfl
  rw [e]
  simp [t]
/-- a difference of rows -/
theorem sp_18 (h : 3 ≤ m) {p : Int} (hp : 0 < p) (xs ys : List Int) (hx : xs.length ≤ 1000000) (hy : ys.length ≤ 1000000) :
    callP pr m 18 [.sh (obD (.py p)), .sh (.tup (iD xs)), .sh (.tup (iD ys))] = .ok (.sh (.tup (iD (Rw.cut p (Rw.addL xs (ys.map (- ·))))))) [.no, .no, .no] := by
  refine ent 2 d_18 g2.h18 rfl h fun n hn => ?_
  have t := sp_17 g g2 hn hp xs (ys.map (- ·)) hx (by simpa using hy)
  simp [d_18, g2.m52]
  rw [cmpI_map (- ·) (by simp) (by omega) (fun a _ => by simp)]
  simp [t]
theorem sp_9 (h : 1 ≤ m) (s : D) (i j : Int) : callP pr m 9 [.sh s, .sh (.int i), .sh (.int j)] = .ok (.sh (.int (i + j))) [.no, .no, .no] := by
  refine ent 0 d_9 g2.h9 rfl h fun n hn => ?_
  simp [d_9]
theorem sp_10 (h : 1 ≤ m) (s : D) (i j : Int) : callP pr m 10 [.sh s, .sh (.int i), .sh (.int j)] = .ok (.sh (.int (i - j))) [.no, .no, .no] := by
  refine ent 0 d_10 g2.h10 rfl h fun n hn => ?_
  simp [d_10]
theorem sp_12 (h : 1 ≤ m) (s : D) (i j : Int) (hj : j ≠ 0) (hb : bits j ≤ 8000) : callP pr m 12 [.sh s, .sh (.int i), .sh (.int j)] = .ok (.sh (.tup [.int ((i - i % j.natAbs).fdiv j), .int (i % j.natAbs)])) [.no, .no, .no] := by
  refine ent 0 d_12 g2.h12 rfl h fun n hn => ?_
  have h1 : (0 : Int) < j.natAbs := by omega
  simp [d_12, bop_mod h1, bop_fdivN (i := i - i % j.natAbs) hj hb]
/-- the inner loop of a division -/
theorem sub_loop {W : Wd} (ys l fl : List Int) (i : Nat) (c : Int) (hi : fl[i]? = some c) (hl : i + ys.length ≤ l.length) (hm : ∀ y ∈ ys, mulOk c y = true) (s0 s1 s2 s5 : Slot) (q7 q8 : J) :
    ∃ p7 p8 : J, forQ W (.tp [.nm 7, .nm 8]) [.augIx .sub 3 (.bin .add (.slot 6) (.slot 7)) (.bin .mul (.idx (.slot 4) (.slot 6)) (.slot 8))] (enD ys) [s0, s1, s2, .ow (.lst (iD l)), .ow (.lst (iD fl)), s5, .sh (.int i), jS q7, jS q8]
      = .nx [s0, s1, s2, .ow (.lst (iD (Rw.rowGo l i (-c) ys))), .ow (.lst (iD fl)), s5, .sh (.int i), jS p7, jS p8] := by
  refine ⟨if ys.length = 0 then q7 else some (.sh (.int ((ys.length : Int) - 1))), if h : ys.length = 0 then q8 else some (.sh (.int (Rw.co ys (ys.length - 1)))), ?_⟩
  rw [forE_idx (mk := fun ρ j => [s0, s1, s2, .ow (.lst (iD (Rw.rowGo l i (-c) (ys.take j)))), .ow (.lst (iD fl)), s5, .sh (.int i), jS (if j = 0 then q7 else some (.sh (.int ((j : Int) - 1)))), jS (if j = 0 then q8 else some (.sh (.int (Rw.co ys (j - 1)))))])]
  · simp
  · simp [Rw.rowGo]
  · intro j hj
    have hlen : i + j < (Rw.rowGo l i (-c) (ys.take j)).length := by rw [Rw.rowGo_len]; omega
    have e1 : (i : Int) + (j : Int) = ((i + j : Nat) : Int) := by omega
    have hy : mulOk c ys[j] = true := hm _ (List.getElem_mem hj)
    have hc : Rw.co ys j = ys[j] := by simp [Rw.co, hj]
    rw [take_snoc hj, rowGo_snoc]
    have f1 : ixD (.lst (iD (Rw.rowGo l i (-c) (ys.take j)))) (.int ((i : Int) + (j : Int))) = some (.int (Rw.co (Rw.rowGo l i (-c) (ys.take j)) (i + j))) := by rw [e1, ixi_nat, co_get hlen]; rfl
    have f2 : ∀ v, setAt (.int ((i : Int) + (j : Int))) (.int v) (.lst (iD (Rw.rowGo l i (-c) (ys.take j)))) = some (.lst (iD ((Rw.rowGo l i (-c) (ys.take j)).set (i + j) v))) := fun v => by rw [e1, set_i hlen]
    have f3 : ixD (.lst (iD fl)) (.int (i : Int)) = some (.int c) := by rw [ixi_nat, hi]; rfl
    have f5 : ∀ z : Int, z - c * ys[j] = z + -c * ys[j] := fun z => by rw [Int.neg_mul]; omega
    simp [bop_mul _ _ hy, f1, f2, f3, f5, Rw.bump, Nat.min_eq_left (Nat.le_of_lt hj), jS_1, hc]
theorem dvS_bd {p v : Int} (hp : p = 2 ∨ p = 3 ∨ p = 5) {xs ys : List Int} (hx : Rw.El p xs) (hy : Rw.El p ys) (h0 : 0 < ys.length) : ∀ t, t ≤ xs.length + 1 - ys.length → ∀ k, (Rw.co (dvS p v ys (xs.length + 1 - ys.length) (Rw.divFirst xs ys) t).2 k).natAbs ≤ 5 + 16 * t
  | 0, _, k => by
    have := Rw.el_get (by omega) hx k
    show (Rw.co xs k).natAbs ≤ _
    simp only [Rw.co]; omega
  | t + 1, ht, k => by
    have ih := dvS_bd hp hx hy h0 (v := v) t (by omega) k
    have hl := (dvS_len p v ys (xs.length + 1 - ys.length) (Rw.divFirst xs ys) t).2
    simp only [dvS, Rw.divStep]
    generalize dvS p v ys (xs.length + 1 - ys.length) (Rw.divFirst xs ys) t = st at ih hl ⊢
    have hl' : st.2.length = xs.length := hl
    rw [Rw.co_rowGo _ _ _ _ (by omega)]
    generalize hc : Rw.co st.2 (xs.length + 1 - ys.length - 1 - t + ys.length - 1) * v % p = c
    have c0 : 0 ≤ c := by rw [← hc]; exact Int.emod_nonneg _ (by omega)
    have c1 : c < p := by rw [← hc]; exact Int.emod_lt_of_pos _ (by omega)
    have hs : 0 ≤ Rw.sh (Rw.co ys) (xs.length + 1 - ys.length - 1 - t) k ∧ Rw.sh (Rw.co ys) (xs.length + 1 - ys.length - 1 - t) k < p := by
      unfold Rw.sh
      split
      · exact Rw.el_get (by omega) hy _
      · omega
    generalize Rw.sh (Rw.co ys) (xs.length + 1 - ys.length - 1 - t) k = b at hs ⊢
    have : (-c * b).natAbs ≤ 16 := by
      rw [Int.natAbs_mul]
      have h1 : (-c).natAbs ≤ 4 := by omega
      have h2 : b.natAbs ≤ 4 := by omega
      exact Nat.mul_le_mul h1 h2
    omega
/-- a division of rows -/
theorem sp_21 (h : 2 ≤ m) {p : Int} (hp : p = 2 ∨ p = 3 ∨ p = 5) (xs ys : List Int) (hx : Rw.El p xs) (hy : Rw.El p ys) (h0 : ys ≠ []) (hl : xs.length ≤ 900000) (hl2 : ys.length ≤ 900000) :
    callP pr m 21 [.sh (obD (.py p)), .sh (.tup (iD xs)), .sh (.tup (iD ys))]
      = .ok (.sh (.tup [.tup (iD (Rw.cut p (Rw.divL p (inv p (Rw.co ys (ys.length - 1))) xs ys).1)), .tup (iD (Rw.cut p (Rw.divL p (inv p (Rw.co ys (ys.length - 1))) xs ys).2))])) [.no, .no, .no] := by
  refine ent 1 d_21 g2.h21 rfl h fun n hn => ?_
  have hpp : 0 < p := by omega
  have hy0 : 0 < ys.length := List.length_pos_iff.mpr h0
  obtain ⟨l1, l2, l3⟩ := last_pos hy h0
  have bd := fun v => dvS_bd g g2 (v := v) hp hx hy hy0
  generalize hc : Rw.co ys (ys.length - 1) = c at l1 l2 l3 ⊢
  obtain ⟨_, o1, o2, _⟩ := inv_ok hp l1 l2
  have f0 := mul_lz 0 (z := max 0 ((xs.length : Int) - (ys.length : Int) + 1)) (k := xs.length + 1 - ys.length) (by omega) (by omega)
  have tb := sp_20 g hn hp c l1 l2
  generalize inv p c = v at o1 o2 tb ⊢
  have ln := dvS_len p v ys (xs.length + 1 - ys.length) (Rw.divFirst xs ys)
  have en := dvS_end p v ys (xs.length + 1 - ys.length) (Rw.divFirst xs ys)
  have dl := divL_len p v xs ys
  have en' : dvS p v ys (xs.length + 1 - ys.length) (Rw.divFirst xs ys) (xs.length + 1 - ys.length) = Rw.divL p v xs ys := en
  have d0 : ∀ N, dvS p v ys N (Rw.divFirst xs ys) 0 = Rw.divFirst xs ys := fun _ => rfl
  have ds : ∀ t, dvS p v ys (xs.length + 1 - ys.length) (Rw.divFirst xs ys) (t + 1) = Rw.divStep p v ys (xs.length + 1 - ys.length - 1 - t) (dvS p v ys (xs.length + 1 - ys.length) (Rw.divFirst xs ys) t) := fun _ => rfl
  have bdv := bd v
  clear bd en
  generalize hst : dvS p v ys (xs.length + 1 - ys.length) (Rw.divFirst xs ys) = st at *
  have e0 := d0 (xs.length + 1 - ys.length)
  rw [hst] at e0
  have rg : itB .rng [.int ((xs.length : Int) - (ys.length : Int)), .int (-1), .int (-1)] = some ((List.range (xs.length + 1 - ys.length)).map fun t : Nat => .int ((xs.length : Int) - (ys.length : Int) - (t : Int))) := by
    exact rng_down _ (by omega) (by omega) (by omega)
  simp [d_21, f0, g.m57, l3, tb, rg]
  let I : Nat → Rho → Prop := fun j ρ => ∃ q6 q7 q8 : J, ρ = [.sh (obD (.py p)), .sh (.tup (iD xs)), .sh (.tup (iD ys)), .ow (.lst (iD (st j).2)), .ow (.lst (iD (st j).1)), .sh (.int v), jS q6, jS q7, jS q8]
  have hI := idx_ex (W := pr.wd (callP pr n)) (t := .nm 6) (b := [.setIx 4 (.slot 6) (.bin .mod (.bin .mul (.idx (.slot 3) (.bin .sub (.bin .add (.slot 6) (.bi .len [.slot 2])) (.cst (.int 1)))) (.slot 5)) (.fld (.slot 0) 3)), .for_ (.tp [.nm 7, .nm 8]) (.bi .enum [.slot 2]) [.augIx .sub 3 (.bin .add (.slot 6) (.slot 7)) (.bin .mul (.idx (.slot 4) (.slot 6)) (.slot 8))]]) (fun t : Nat => .int ((xs.length : Int) - (ys.length : Int) - (t : Int))) I (List.range (xs.length + 1 - ys.length))
    (ρ := [.sh (obD (.py p)), .sh (.tup (iD xs)), .sh (.tup (iD ys)), .ow (.lst (iD xs)), .ow (.lst (iD (List.replicate (xs.length + 1 - ys.length) 0))), .sh (.int v), .no, .no, .no]) ⟨none, none, none, by rw [e0]; rfl⟩ ?_
  · refine seq_ex (I := I (xs.length + 1 - ys.length)) (by simpa using hI) ?_
    rintro _ ⟨q6, q7, q8, rfl⟩
    rw [en']
    have t1 := sp_15 g hn hpp (Rw.divL p v xs ys).1 (by omega)
    have t2 := sp_15 g hn hpp (Rw.divL p v xs ys).2 (by omega)
    simp [g.m56, t1, t2]
  · rintro j hj _ ⟨q6, q7, q8, rfl⟩
    rw [List.length_range] at hj
    rw [List.getElem_range]
    have lj := ln j
    have l1' : (st j).1.length = xs.length + 1 - ys.length := by rw [lj.1]; simp [Rw.divFirst]
    have l2' : (st j).2.length = xs.length := lj.2
    rw [show (xs.length : Int) - (ys.length : Int) - (j : Int) = ((xs.length + 1 - ys.length - 1 - j : Nat) : Int) by omega]
    have bj := bdv j (by omega)
    have dj := ds j
    have hi : xs.length + 1 - ys.length - 1 - j < xs.length + 1 - ys.length := by omega
    have hi2 : xs.length + 1 - ys.length - 1 - j + ys.length ≤ xs.length := by omega
    generalize xs.length + 1 - ys.length - 1 - j = i at *
    have f1 : ixD (.lst (iD (st j).2)) (.int ((i : Int) + (ys.length : Int) - 1)) = some (.int (Rw.co (st j).2 (i + ys.length - 1))) := by
      rw [show (i : Int) + (ys.length : Int) - 1 = ((i + ys.length - 1 : Nat) : Int) by omega, ixi_nat, co_get (by omega)]; rfl
    have f2 : mulOk (Rw.co (st j).2 (i + ys.length - 1)) v = true := by
      have := bj (i + ys.length - 1)
      exact mulOk_b (a := 40) (b := 3) (bits_lt (by omega)) (bits_lt (by omega)) (by decide)
    have f3 := fun z => set_i (xs := (st j).1) (k := i) (by omega) z
    generalize hcc : Rw.co (st j).2 (i + ys.length - 1) * v % p = cc at *
    have c0 : 0 ≤ cc := by rw [← hcc]; exact Int.emod_nonneg _ (by omega)
    have c1 : cc < p := by rw [← hcc]; exact Int.emod_lt_of_pos _ (by omega)
    obtain ⟨p7, p8, e⟩ := sub_loop g g2 (W := pr.wd (callP pr n)) ys (st j).2 ((st j).1.set i cc) i cc (by rw [List.getElem?_set_self (by omega)]) (by omega) (fun y hy' => by
        have := hy.lo y hy'
        exact mulOk_b (a := 3) (b := 3) (bits_lt (by omega)) (bits_lt (by omega)) (by decide))
      (.sh (obD (.py p))) (.sh (.tup (iD xs))) (.sh (.tup (iD ys))) (.sh (.int v)) q7 q8
    refine ⟨_, by simp [f1, bop_mul _ _ f2, bop_mod hpp, g.f53, hcc, f3, e]; rfl, some (.sh (.int i)), p7, p8, ?_⟩
    rw [dj]
    simp only [Rw.divStep, hcc]; rfl
end
end Lw
/-! Rings of both kinds at once. -/
namespace Lw
open PySem Dp
theorem char_inj : ∀ {a b : List Char}, a.map Char.toNat = b.map Char.toNat → a = b
  | [], [], _ => rfl
  | [], _ :: _, h => by cases h
  | _ :: _, [], h => by cases h
  | x :: a, y :: b, h => by
    simp only [List.map_cons, List.cons.injEq] at h
    have : x = y := Char.ext (UInt32.toNat_inj.mp h.1)
    rw [this, char_inj h.2]
@[simp] theorem str_inj (a b : String) : (Str.ofString a = Str.ofString b) = (a = b) := by
  apply propext
  constructor
  · intro h
    rw [Str.ofString_eq_toList, Str.ofString_eq_toList, Str.mk.injEq] at h
    have h2 := char_inj (by simpa using congrArg Array.toList h)
    exact String.toList_inj.mp h2
  · rintro rfl; rfl
@[simp] theorem eqD_str (a b : String) : eqD (.str (Str.ofString a)) (.str (Str.ofString b)) = some (decide (a = b)) := by
  rw [eqD_s (ok_of a) (ok_of b)]; simp
theorem cstVs_i (l : List Int) : cstVs (iD l) = some (l.map L2.V.int) := by
  induction l with
  | nil => rfl
  | cons a l ih => rw [iD_cons]; simp only [cstVs, cstV, ih, List.map_cons]
theorem inD_i (i : Int) (l : List Int) : inD (.int i) (.tup (iD l)) = some (decide (i ∈ l)) := by
  simp only [inD, cstV, cstVs_i, L2.inV]
  congr 1
  induction l with
  | nil => rfl
  | cons a l ih =>
    simp only [List.map_cons, List.any_cons, ih]
    by_cases h : i = a
    · subst h; simp [L2.eqV]
    · have h' : ¬ a = i := fun e => h e.symm
      simp [L2.eqV, h, h']
def Rg.cl : Rg → Nat
  | .wh => 4 | .py _ => 5
@[simp] theorem cl_wh : Rg.wh.cl = 4 := rfl
@[simp] theorem cl_py (p : Int) : (Rg.py p).cl = 5 := rfl
section
variable (W : Wd) (mm : Nat) (as : List Ar) (v : AV) (ρ : Rho) (fok : Nat → Nat → Bool) (eok : Nat → Bool) (r : Rg)
@[simp] theorem kM2_ob : kM2 W mm as v ρ (some (obD r)) = kM3 W as v ρ (W.meth r.cl mm) := by cases r <;> rfl
@[simp] theorem fld_ob1 : fldD fok eok 1 (obD r) = if fok r.cl 1 then some (vD r.zero) else none := by cases r <;> simp [Rg.cl, Rg.zero] <;> rfl
@[simp] theorem fld_ob2 : fldD fok eok 2 (obD r) = if fok r.cl 2 then some (vD r.one) else none := by cases r <;> simp [Rg.cl, Rg.one, iD_cons] <;> rfl
end
def Rg.iHas : Rg → Nat
  | .wh => 7 | .py _ => 14
def Rg.iAdd : Rg → Nat
  | .wh => 9 | .py _ => 17
def Rg.iSub : Rg → Nat
  | .wh => 10 | .py _ => 18
def Rg.iMul : Rg → Nat
  | .wh => 11 | .py _ => 19
def Rg.iDiv : Rg → Nat
  | .wh => 12 | .py _ => 21
theorem G1.mHas {pr : Pr} (g : G1 pr) (r : Rg) : pr.meth r.cl 0 = some r.iHas := by cases r; exact g.m40; exact g.m50
theorem G1.mMul {pr : Pr} (g : G1 pr) (r : Rg) : pr.meth r.cl 4 = some r.iMul := by cases r; exact g.m44; exact g.m54
theorem G2.mAdd {pr : Pr} (g : G2 pr) (r : Rg) : pr.meth r.cl 2 = some r.iAdd := by cases r; exact g.m42; exact g.m52
theorem G2.mSub {pr : Pr} (g : G2 pr) (r : Rg) : pr.meth r.cl 3 = some r.iSub := by cases r; exact g.m43; exact g.m53
theorem G2.mDiv {pr : Pr} (g : G2 pr) (r : Rg) : pr.meth r.cl 5 = some r.iDiv := by cases r; exact g.m45; exact g.m55
theorem G1.f1 {pr : Pr} (g : G1 pr) (r : Rg) : pr.fok r.cl 1 = true := by cases r; exact g.f41; exact g.f51
theorem G1.f2 {pr : Pr} (g : G1 pr) (r : Rg) : pr.fok r.cl 2 = true := by cases r; exact g.f42; exact g.f52
/-- whether any object is an element -/
def Rg.hasB : Rg → D → Bool
  | .wh, d => isInt d | .py p, d => Lw.hasB p d
theorem hasB_V {r : Rg} {x : V} (h : r.el x) : r.hasB (vD x) = true := by
  cases r with
  | wh => obtain ⟨i, rfl⟩ := el_wh h; rfl
  | py p => obtain ⟨l, rfl, hl⟩ := el_by h; exact hasB_el hl
theorem datL_V {x : V} (h : x.sz ≤ 1000000) : datL (vD x) = true := by
  cases x with
  | n i => rfl
  | f l =>
    have : l.length ≤ 1000000 := h
    simp only [vD_f, datL, iD_len, decide_eq_true this, Bool.and_true, List.all_eq_true]
    intro d hd
    obtain ⟨i, _, rfl⟩ := List.mem_map.1 hd
    rfl
theorem dat_L {d : D} (h : datL d = true) : dat d = true := by
  cases d <;> first | rfl | cases h
section
variable {pr : Pr} (g : G1 pr) {m : Nat}
include g
theorem vs_has (h : 3 ≤ m) (r : Rg) (d : D) (hd : datL d = true) : callP pr m r.iHas [.sh (obD r), .sh d] = .ok (.sh (.bl (r.hasB d))) [.no, .no] := by
  cases r with
  | wh => exact sp_7 g (by omega) (obD .wh) d (dat_L hd)
  | py p => exact sp_14 g h p d hd
theorem vs_mul (h : 2 ≤ m) {r : Rg} (hr : r.ok) {x y : V} (hx : r.el x) (hy : r.el y) (hs : x.sz + y.sz ≤ 10000000) :
    callP pr m r.iMul [.sh (obD r), .sh (vD x), .sh (vD y)] = .ok (.sh (vD (r.mul x y))) [.no, .no, .no] := by
  cases r with
  | wh =>
    obtain ⟨i, rfl⟩ := el_wh hx
    obtain ⟨j, rfl⟩ := el_wh hy
    exact sp_11 g (by omega) _ i j (mulOk_b (Nat.le_refl _) (Nat.le_refl _) (by simp only [V.sz] at hs; omega))
  | py p =>
    obtain ⟨l, rfl, hl⟩ := el_by hx
    obtain ⟨k, rfl, hk⟩ := el_by hy
    have hp : p = 2 ∨ p = 3 ∨ p = 5 := hr
    exact sp_19 g h (Rg.pos hr) l k (fun a ha b hb => by
      have h1 := hl.lo a ha
      have h2 := hk.lo b hb
      exact mulOk_b (a := 3) (b := 3) (bits_lt (by omega)) (bits_lt (by omega)) (by decide)) (by simp only [V.sz] at hs; omega)
variable (g2 : G2 pr)
include g2
theorem vs_add (h : 2 ≤ m) {r : Rg} (hr : r.ok) {x y : V} (hx : r.el x) (hy : r.el y) (hs : x.sz ≤ 1000000) (hs2 : y.sz ≤ 1000000) :
    callP pr m r.iAdd [.sh (obD r), .sh (vD x), .sh (vD y)] = .ok (.sh (vD (r.add x y))) [.no, .no, .no] := by
  cases r with
  | wh =>
    obtain ⟨i, rfl⟩ := el_wh hx
    obtain ⟨j, rfl⟩ := el_wh hy
    exact sp_9 g g2 (by omega) _ i j
  | py p =>
    obtain ⟨l, rfl, hl⟩ := el_by hx
    obtain ⟨k, rfl, hk⟩ := el_by hy
    exact sp_17 g g2 h (Rg.pos hr) l k hs hs2
theorem vs_sub (h : 3 ≤ m) {r : Rg} (hr : r.ok) {x y : V} (hx : r.el x) (hy : r.el y) (hs : x.sz ≤ 1000000) (hs2 : y.sz ≤ 1000000) :
    callP pr m r.iSub [.sh (obD r), .sh (vD x), .sh (vD y)] = .ok (.sh (vD (r.sub x y))) [.no, .no, .no] := by
  cases r with
  | wh =>
    obtain ⟨i, rfl⟩ := el_wh hx
    obtain ⟨j, rfl⟩ := el_wh hy
    exact sp_10 g g2 (by omega) _ i j
  | py p =>
    obtain ⟨l, rfl, hl⟩ := el_by hx
    obtain ⟨k, rfl, hk⟩ := el_by hy
    exact sp_18 g g2 h (Rg.pos hr) l k hs hs2
theorem vs_div (h : 2 ≤ m) {r : Rg} (hr : r.ok) {x y : V} (hx : r.el x) (hy : r.el y) (h0 : y ≠ r.zero) (hs : x.sz ≤ 900000) (hs2 : y.sz ≤ 8000) :
    callP pr m r.iDiv [.sh (obD r), .sh (vD x), .sh (vD y)] = .ok (.sh (.tup [vD (r.div x y).1, vD (r.div x y).2])) [.no, .no, .no] := by
  cases r with
  | wh =>
    obtain ⟨i, rfl⟩ := el_wh hx
    obtain ⟨j, rfl⟩ := el_wh hy
    exact sp_12 g g2 (by omega) _ i j (fun e => h0 (by rw [e]; rfl)) hs2
  | py p =>
    obtain ⟨l, rfl, hl⟩ := el_by hx
    obtain ⟨k, rfl, hk⟩ := el_by hy
    exact sp_21 g g2 h hr l k hl hk (fun e => h0 (by rw [e]; rfl)) hs (by simp only [V.sz] at hs2; omega)
end
section
variable {pr : Pr} (g : G1 pr) {m : Nat}
include g
theorem sp_22 (h : 2 ≤ m) {r : Rg} (hr : r.ok) : callP pr m 22 [.sh (rgD r)] = .ok (.sh (.bl true)) [.no] := by
  refine ent 1 d_22 g.h22 rfl h fun n hn => ?_
  have i1 := fun p => inD_i p [2, 3, 5]
  simp only [iD_cons, iD_nil] at i1
  cases r with
  | wh =>
    have e : eqD (.tup [.str "whole"]) (.tup [.str "whole"]) = some true := by
      rw [eqD_pl (pl_tup (n := 0) (plL_cons (pl_str 0 (ok_of _)) (plL_nil 0)) |>.mono (by decide)) (pl_tup (n := 0) (plL_cons (pl_str 0 (ok_of _)) (plL_nil 0)) |>.mono (by decide))]; simp
    simp [d_22, rgD, e]
  | py p =>
    have hp : p = 2 ∨ p = 3 ∨ p = 5 := hr
    simp [d_22, rgD, sp_0 g hn (.int p) rfl, isInt, i1, hp]
theorem sp_23 (h : 2 ≤ m) (r : Rg) : callP pr m 23 [.sh (rgD r)] = .ok (.fr (obD r)) [.no] := by
  refine ent 1 d_23 g.h23 rfl h fun n hn => ?_
  cases r with
  | wh => simp [d_23, rgD, g.i4, sp_6 g hn]
  | py p => simp [d_23, rgD, g.i5, sp_13 g hn p]
theorem sp_25 (h : 3 ≤ m) {r : Rg} (hr : r.ok) : callP pr m 25 [.sh (rgD r)] = .ok (.sh .non) [.no] := by
  refine ent 2 d_25 g.h25 rfl h fun n hn => ?_
  simp [d_25, sp_22 g hn hr]
theorem sp_26 (h : 4 ≤ m) {r : Rg} (hr : r.ok) : callP pr m 26 [.sh (rgD r)] = .ok (.fr (obD r)) [.no] := by
  refine ent 3 d_26 g.h26 rfl h fun n hn => ?_
  simp [d_26, sp_25 g hn hr, sp_23 g (m := n) (by omega) r]
/-- objects that are no rings -/
def NoRg (d : D) : Prop := d = .non ∨ d = .tup [.str "by", .int 7] ∨ d = .lst [.str "whole"] ∨ d = .tup [.str "by"] ∨ d = .tup [.str "by", .bl true] ∨ d = .str "whole" ∨ d = .tup [.str "by", .int 4] ∨ d = .tup [.str "whole", .int 2]
theorem sp_22n (h : 2 ≤ m) {d : D} (hd : NoRg d) : callP pr m 22 [.sh d] = .ok (.sh (.bl false)) [.no] := by
  refine ent 1 d_22 g.h22 rfl h fun n hn => ?_
  have i1 := fun p => inD_i p [2, 3, 5]
  simp only [iD_cons, iD_nil] at i1
  have e : eqD (.tup [.str "whole", .int 2]) (.tup [.str "whole"]) = some false := by
    rw [eqD_pl (pl_tup (n := 0) (plL_cons (pl_str 0 (ok_of _)) (plL_cons (pl_int 0 2) (plL_nil 0))) |>.mono (by decide)) (pl_tup (n := 0) (plL_cons (pl_str 0 (ok_of _)) (plL_nil 0)) |>.mono (by decide))]; simp
  rcases hd with rfl | rfl | rfl | rfl | rfl | rfl | rfl | rfl
  · simp [d_22]
  · simp [d_22, sp_0 g hn (.int 7) rfl, isInt, i1]
  · simp [d_22]
  · simp [d_22]
  · simp [d_22, sp_0 g hn (.bl true) rfl, isInt]
  · simp [d_22]
  · simp [d_22, sp_0 g hn (.int 4) rfl, isInt, i1]
  · simp [d_22, e]
end
end Lw
/-! The defs of rings and elements that others call. -/
namespace Lw
open PySem Dp
theorem eqD_V {r : Rg} {x y : V} (hx : r.el x) (hy : r.el y) : eqD (vD x) (vD y) = some (decide (x = y)) := by
  cases r with
  | wh =>
    obtain ⟨i, rfl⟩ := el_wh hx
    obtain ⟨j, rfl⟩ := el_wh hy
    simp
  | py p =>
    obtain ⟨l, rfl, _⟩ := el_by hx
    obtain ⟨k, rfl, _⟩ := el_by hy
    simp
/-- an object that is no element, plain and small -/
structure Bad (r : Rg) (d : D) : Prop where
  dt : datL d = true
  no : r.hasB d = false
  wt : Wt 3 1000 d
def Rg.pw (r : Rg) (x : V) : Nat → V
  | 0 => r.one | k + 1 => r.mul (r.pw x k) x
theorem el_pw {r : Rg} (h : r.ok) (x : V) : ∀ k, r.el (r.pw x k)
  | 0 => el_one h
  | k + 1 => el_mul h _ _
theorem sz_one (r : Rg) : r.one.sz ≤ 1 := by cases r <;> simp [Rg.one, V.sz] <;> decide
theorem sz_zero (r : Rg) : r.zero.sz = 0 := by cases r <;> rfl
theorem sz_pw (r : Rg) (x : V) : ∀ k, (r.pw x k).sz ≤ 1 + k * x.sz
  | 0 => by have := sz_one r; show r.one.sz ≤ _; omega
  | k + 1 => by
    have h1 := sz_pw r x k
    have h2 := sz_mul r (r.pw x k) x
    show (r.mul (r.pw x k) x).sz ≤ _
    rw [Nat.succ_mul]; omega
section
variable {pr : Pr} (g : G1 pr) {m : Nat} {r : Rg}
include g
theorem sp_27 (h27 : pr.defs 27 = some d_27) (h : 4 ≤ m) {x : V} (hx : r.el x) (hs : x.sz ≤ 1000000) : callP pr m 27 [.sh (obD r), .sh (vD x)] = .ok (.sh .non) [.no, .no] := by
  refine ent 3 d_27 h27 rfl h fun n hn => ?_
  simp [d_27, g.mHas r, vs_has g hn r (vD x) (datL_V hs), hasB_V hx]
theorem sp_27n (h27 : pr.defs 27 = some d_27) (h : 5 ≤ m) {d : D} (hd : Bad r d) : callP pr m 27 [.sh (obD r), .sh d] = .exc 3 d := by
  refine ent 4 d_27 h27 rfl h fun n hn => ?_
  simp [d_27, g.mHas r, vs_has g (m := n) (by omega) r d hd.dt, hd.no, sp_3 g 1000 (by decide) 3 hn d hd.wt, anw_d]
theorem sp_28 (h27 : pr.defs 27 = some d_27) (h28 : pr.defs 28 = some d_28) (h : 5 ≤ m) {x y : V} (hx : r.el x) (hy : r.el y) (hs : x.sz ≤ 1000000) (hs2 : y.sz ≤ 1000000) :
    callP pr m 28 [.sh (obD r), .sh (vD x), .sh (vD y)] = .ok (.sh .non) [.no, .no, .no] := by
  refine ent 4 d_28 h28 rfl h fun n hn => ?_
  simp [d_28, sp_27 g h27 hn hx hs, sp_27 g h27 hn hy hs2]
theorem sp_28a (h27 : pr.defs 27 = some d_27) (h28 : pr.defs 28 = some d_28) (h : 6 ≤ m) {d : D} (hd : Bad r d) (e : D) :
    callP pr m 28 [.sh (obD r), .sh d, .sh e] = .exc 3 d := by
  refine ent 5 d_28 h28 rfl h fun n hn => ?_
  simp [d_28, sp_27n g h27 hn hd]
theorem sp_28b (h27 : pr.defs 27 = some d_27) (h28 : pr.defs 28 = some d_28) (h : 6 ≤ m) {x : V} (hx : r.el x) (hs : x.sz ≤ 1000000) {d : D} (hd : Bad r d) :
    callP pr m 28 [.sh (obD r), .sh (vD x), .sh d] = .exc 3 d := by
  refine ent 5 d_28 h28 rfl h fun n hn => ?_
  simp [d_28, sp_27 g h27 (m := n) (by omega) hx hs, sp_27n g h27 hn hd]
theorem sp_33 (h27 : pr.defs 27 = some d_27) (h33 : pr.defs 33 = some d_33) (h : 5 ≤ m) {x : V} (hx : r.el x) (hs : x.sz ≤ 1000000) (h0 : x ≠ r.zero) : callP pr m 33 [.sh (obD r), .sh (vD x)] = .ok (.sh .non) [.no, .no] := by
  refine ent 4 d_33 h33 rfl h fun n hn => ?_
  simp [d_33, sp_27 g h27 hn hx hs, g.f1 r, eqD_V hx (el_zero r), h0]
theorem sp_33z (h27 : pr.defs 27 = some d_27) (h33 : pr.defs 33 = some d_33) (h : 5 ≤ m) : callP pr m 33 [.sh (obD r), .sh (vD r.zero)] = .exc 3 (vD r.zero) := by
  refine ent 4 d_33 h33 rfl h fun n hn => ?_
  simp [d_33, sp_27 g h27 hn (el_zero r) (by rw [sz_zero]; decide), g.f1 r, eqD_V (el_zero r) (el_zero r)]
theorem sp_33n (h27 : pr.defs 27 = some d_27) (h33 : pr.defs 33 = some d_33) (h : 6 ≤ m) {d : D} (hd : Bad r d) : callP pr m 33 [.sh (obD r), .sh d] = .exc 3 d := by
  refine ent 5 d_33 h33 rfl h fun n hn => ?_
  simp [d_33, sp_27n g h27 hn hd]
theorem sp_5 (h5 : pr.defs 5 = some d_5) (h : 3 ≤ m) (hr : r.ok) {x : V} (hx : r.el x) (k : Nat) (hk : k ≤ 10000) (hs : 1 + k * x.sz + x.sz ≤ 10000000) :
    callP pr m 5 [.sh (obD r), .sh (vD x), .sh (.int k)] = .ok (.sh (vD (r.pw x k))) [.no, .no, .no] := by
  refine ent 2 d_5 h5 rfl h fun n hn => ?_
  simp -implicitDefEqProofs [d_5, g.f2 r, rng_1 (z := (k : Int)) rfl (show k ≤ 16777216 by omega)]
  rw [forN_idx (mk := fun ρ j => [.sh (obD r), .sh (vD x), .sh (.int k), .sh (vD (r.pw x j)), jS (if j = 0 then none else some (.sh (.int ((j : Int) - 1))))])]
  · simp -implicitDefEqProofs
  · rfl
  · intro j hj
    have h1 := sz_pw r x j
    have h2 : j * x.sz ≤ k * x.sz := Nat.mul_le_mul_right _ (by omega)
    simp -implicitDefEqProofs [g.mMul r, vs_mul g hn hr (el_pw hr x j) hx (by omega), jS_1]
    rfl
variable (g2 : G2 pr)
include g2
/-- whether one divides the other -/
def Rg.dvd (r : Rg) (x y : V) : Bool := if x = r.zero then decide (y = r.zero) else decide ((r.div y x).2 = r.zero)
theorem sp_4 (h4 : pr.defs 4 = some d_4) (h : 3 ≤ m) (hr : r.ok) {x y : V} (hx : r.el x) (hy : r.el y) (hs : x.sz ≤ 8000) (hs2 : y.sz ≤ 900000) :
    callP pr m 4 [.sh (obD r), .sh (vD x), .sh (vD y)] = .ok (.sh (.bl (r.dvd x y))) [.no, .no, .no] := by
  refine ent 2 d_4 h4 rfl h fun n hn => ?_
  by_cases h0 : x = r.zero
  · subst h0
    simp [d_4, g.f1 r, eqD_V (el_zero r) (el_zero r), eqD_V hy (el_zero r), Rg.dvd]
  · simp [d_4, g.f1 r, eqD_V hx (el_zero r), h0, g2.mDiv r, vs_div g g2 hn hr hy hx h0 hs2 hs, eqD_V (el_div hr y x).2 (el_zero r), Rg.dvd]
end
section
variable {pr : Pr} (g : G1 pr) {m : Nat}
theorem sp_2 (h2 : pr.defs 2 = some d_2) (h : 1 ≤ m) {k a b : Int} (ha : a ≤ k) (hb : k ≤ b) : callP pr m 2 [.sh (.int k), .sh (.int a), .sh (.int b)] = .ok (.sh .non) [.no, .no, .no] := by
  refine ent 0 d_2 h2 rfl h fun n hn => ?_
  simp [d_2, show ¬ k < a by omega, show ¬ b < k by omega]
theorem sp_2n (h2 : pr.defs 2 = some d_2) (h : 1 ≤ m) {k a b : Int} (hk : k < a ∨ b < k) : callP pr m 2 [.sh (.int k), .sh (.int a), .sh (.int b)] = .exc 2 (.int k) := by
  refine ent 0 d_2 h2 rfl h fun n hn => ?_
  by_cases h1 : k < a
  · simp [d_2, h1]
  · simp [d_2, h1, show b < k by omega]
include g
theorem sp_25n (h : 5 ≤ m) {d : D} (hd : NoRg d) (hw : Wt 3 1000 d) : callP pr m 25 [.sh d] = .exc 1 d := by
  refine ent 4 d_25 g.h25 rfl h fun n hn => ?_
  simp [d_25, sp_22n g (m := n) (by omega) hd, sp_3 g 1000 (by decide) 3 hn d hw, anw_d]
theorem sp_26n (h : 6 ≤ m) {d : D} (hd : NoRg d) (hw : Wt 3 1000 d) : callP pr m 26 [.sh d] = .exc 1 d := by
  refine ent 5 d_26 g.h26 rfl h fun n hn => ?_
  simp [d_26, sp_25n g hn hd hw]
end
end Lw
/-! What the laws k00 to k10 draw from. -/
namespace Lw
open PySem Dp
theorem run1 {W : Wd} {s : S} {r : List S} {ρ : Rho} {np : Nat} {c : CR} (ρ' : Rho) (h : ex W s ρ = .nx ρ') (k : finR np (exs W r ρ') = c) : finR np (exs W (s :: r) ρ) = c := by
  rw [exs_2, h]; exact k
theorem run2 {W : Wd} {s : S} {r : List S} {ρ : Rho} {x : XR} (ρ' : Rho) (h : ex W s ρ = .nx ρ') (k : exs W r ρ' = x) : exs W (s :: r) ρ = x := by
  rw [exs_2, h]; exact k
theorem powS (n : Nat) (h : n ≤ 1000000) : bop .pow (.int 10) (.int n) = some (.sh (.int (10 ^ n))) := by
  rw [bop_pow _ _ ⟨by omega, by omega, by decide⟩]; simp
theorem pow18 : bop .pow (.int 10) (.int 18) = some (.sh (.int 1000000000000000000)) := powS 18 (by decide)
theorem pow24 : bop .pow (.int 10) (.int 24) = some (.sh (.int 1000000000000000000000000)) := powS 24 (by decide)
theorem pow27 : bop .pow (.int 10) (.int 27) = some (.sh (.int 1000000000000000000000000000)) := powS 27 (by decide)
theorem pow28 : bop .pow (.int 10) (.int 28) = some (.sh (.int 10000000000000000000000000000)) := powS 28 (by decide)
theorem pow29 : bop .pow (.int 10) (.int 29) = some (.sh (.int 100000000000000000000000000000)) := powS 29 (by decide)
theorem pow30 : bop .pow (.int 10) (.int 30) = some (.sh (.int 1000000000000000000000000000000)) := powS 30 (by decide)
theorem pow32 : bop .pow (.int 10) (.int 32) = some (.sh (.int 100000000000000000000000000000000)) := powS 32 (by decide)
/-- what is drawn from: n more draws -/
structure Spr (n : Nat) (s : D) : Prop where
  ex : ∃ a b c : Int, s = .lst [.int a, .int b, .int c] ∧ 0 ≤ a ∧ bits a ≤ 2000000 ∧ 0 ≤ b ∧ bits b ≤ 100 ∧ 0 ≤ c ∧ c + n ≤ 1000000
theorem Spr.mono {n k : Nat} {s : D} (h : Spr n s) (hk : k ≤ n) : Spr k s := by
  obtain ⟨a, b, c, h1, h2, h3, h4, h5, h6, h7⟩ := h.ex
  exact ⟨a, b, c, h1, h2, h3, h4, h5, h6, by omega⟩
section
variable {pr : Pr} {m : Nat}
/-- a draw -/
theorem sp_41 (h41 : pr.defs 41 = some d_41) (h : 1 ≤ m) {n : Nat} {s : D} (hs : Spr (n + 1) s) (k : Int) (hk : 0 < k) (hkb : bits k ≤ 2000) :
    ∃ v s', callP pr m 41 [.io s, .sh (.int k)] = .ok (.sh (.int v)) [.io s', .no] ∧ Spr n s' ∧ 0 ≤ v ∧ v < k := by
  obtain ⟨a, b, c, rfl, h2, h3, h4, h5, h6, h7⟩ := hs.ex
  by_cases ha : 0 < a
  · refine ⟨a % k, .lst [.int (a / k), .int b, .int c], ?_, ⟨a / k, b, c, rfl, Int.ediv_nonneg h2 (by omega), ?_, h4, h5, h6, by omega⟩, Int.emod_nonneg _ (by omega), Int.emod_lt_of_pos _ hk⟩
    · refine ent 0 d_41 h41 rfl h fun q _ => ?_
      simp -implicitDefEqProofs [d_41, ha, bop_mod hk, bop_fdiv hk (bits_le hkb (by decide))]
    · refine bits_to (j := a) ?_ h3
      have h8 : a / k ≤ a := Int.ediv_le_self _ h2
      have h9 : 0 ≤ a / k := Int.ediv_nonneg h2 (by omega)
      omega
  · obtain ⟨v, hv⟩ : ∃ v, v = c + 1 := ⟨_, rfl⟩
    have v0 : 0 ≤ v := by omega
    have vb : bits v ≤ 30 := bits_lt (by omega)
    have vb5 : bits (v + 5) ≤ 31 := bits_add vb (bits_lt (by decide))
    have b17 : bits (b + 17) ≤ 101 := bits_add h5 (bits_lt (by decide))
    have m1 := mulOk_b b17 vb5 (by decide)
    have w1 := bits_mul b17 vb5
    have m2 := mulOk_b (j := 1000000007) (b := 40) w1 (bits_lt (by decide)) (by decide)
    have m3 := mulOk_b vb vb (by decide)
    have w3 := bits_mul vb vb
    have m4 := mulOk_b w3 vb (by decide)
    have w4 := bits_mul w3 vb
    have m5 := mulOk_b (j := 777767777) (b := 40) w4 (bits_lt (by decide)) (by decide)
    have mb : ∀ z d : Int, 0 < d → bits d ≤ 200 → 0 ≤ z % d ∧ bits (z % d) ≤ 200 := fun z d hd hb => by
      have e1 := Int.emod_nonneg z (show d ≠ 0 by omega)
      have e2 := Int.emod_lt_of_pos z hd
      exact ⟨e1, bits_to (j := d) (by omega) hb⟩
    obtain ⟨c1, hc1⟩ : ∃ c1, c1 = ((b + 17) * (v + 5) * 1000000007 + v * v * v * 777767777 + 31) % 10000000000000000000000000331 := ⟨_, rfl⟩
    obtain ⟨k1, k2⟩ := mb ((b + 17) * (v + 5) * 1000000007 + v * v * v * 777767777 + 31) 10000000000000000000000000331 (by decide) (bits_lt (by decide))
    rw [← hc1] at k1 k2
    have m6 := mulOk_b k2 k2 (by decide)
    have m7 := mulOk_b (j := 13) (b := 10) h5 (bits_lt (by decide)) (by decide)
    obtain ⟨c2, hc2⟩ : ∃ c2, c2 = (c1 * c1 + b * 13 + v) % 1000000000000000000000000000057 := ⟨_, rfl⟩
    obtain ⟨l1, l2⟩ := mb (c1 * c1 + b * 13 + v) 1000000000000000000000000000057 (by decide) (bits_lt (by decide))
    rw [← hc2] at l1 l2
    have m8 := mulOk_b l2 l2 (by decide)
    have m9 := mulOk_b (j := 5) (b := 10) (bits_mul l2 l2) (bits_lt (by decide)) (by decide)
    have m10 := mulOk_b (j := 17) (b := 10) l2 (bits_lt (by decide)) (by decide)
    obtain ⟨c3, hc3⟩ : ∃ c3, c3 = (c2 * c2 * 5 + c2 * 17) % 100000000000000000000000000000049 := ⟨_, rfl⟩
    have dv : bop .fdiv (.int c3) (.int 30011) = some (.sh (.int (c3 / 30011))) := bop_fdiv (by decide) (bits_lt (n := 8000) (Nat.lt_of_lt_of_le (show _ < 2 ^ 20 by decide) (Nat.pow_le_pow_right (by decide) (by decide))))
    refine ⟨c3 / 30011 % k, .lst [.int a, .int b, .int v], ?_, ⟨a, b, v, rfl, h2, h3, h4, h5, v0, by omega⟩, Int.emod_nonneg _ (by omega), Int.emod_lt_of_pos _ hk⟩
    refine ent 0 d_41 h41 rfl h fun q _ => ?_
    simp only [d_41, Nat.reduceSub, List.replicate, List.cons_append, List.nil_append]
    refine run1 [.io (.lst [.int a, .int b, .int c]), .sh (.int k), .no, .no, .no] (by simp -implicitDefEqProofs [ha]) ?_
    refine run1 [.io (.lst [.int a, .int b, .int v]), .sh (.int k), .no, .no, .no] (by simp -implicitDefEqProofs [hv]) ?_
    refine run1 [.io (.lst [.int a, .int b, .int v]), .sh (.int k), .no, .sh (.int v), .no] (by simp -implicitDefEqProofs) ?_
    refine run1 [.io (.lst [.int a, .int b, .int v]), .sh (.int k), .no, .sh (.int v), .sh (.int c1)] (by simp -implicitDefEqProofs [bop_mul _ _ m1, bop_mul _ _ m2, bop_mul _ _ m3, bop_mul _ _ m4, bop_mul _ _ m5, pow28, bop_mod, hc1]) ?_
    clear hc1
    refine run1 [.io (.lst [.int a, .int b, .int v]), .sh (.int k), .no, .sh (.int v), .sh (.int c2)] (by simp -implicitDefEqProofs [bop_mul _ _ m6, bop_mul _ _ m7, pow30, bop_mod, hc2]) ?_
    clear hc2
    refine run1 [.io (.lst [.int a, .int b, .int v]), .sh (.int k), .no, .sh (.int v), .sh (.int c3)] (by simp -implicitDefEqProofs [bop_mul _ _ m8, bop_mul _ _ m9, bop_mul _ _ m10, pow32, bop_mod, hc3]) ?_
    clear hc3
    simp -implicitDefEqProofs [dv, bop_mod hk]
/-- where the draws begin -/
theorem sp_40 (h40 : pr.defs 40 = some d_40) (h : 1 ≤ m) (ns : List Int) (hn : ns.length ≤ 63) (hb : ∀ z ∈ ns, bits z ≤ 1048576) (k : Nat) (hk : k ≤ 10) :
    ∃ s, callP pr m 40 [.sh (.scr ns), .sh (.int k)] = .ok (.fr s) [.no, .no] ∧ Spr 900000 s := by
  have mk31 := mulOk_b (i := 31) (j := (k : Int)) (a := 10) (b := 10) (bits_lt (by decide)) (bits_lt (by omega)) (by decide)
  have ml := mulOk_b (i := 11) (j := (ns.length : Int)) (a := 10) (b := 10) (bits_lt (by decide)) (bits_lt (by omega)) (by decide)
  obtain ⟨cell, hc, hcb⟩ : ∃ cell : Int, (∀ W q2 q3 q4 q5, ev W (.ite (.cmp .lt (.slot 1) (.bi .len [.slot 0])) (.bi .int [.idx (.slot 0) (.slot 1)]) (.bin .add (.cst (.int 37)) (.bin .mul (.cst (.int 31)) (.slot 1)))) [.sh (.scr ns), .sh (.int k), q2, q3, q4, q5] = .ok (.sh (.int cell), [.sh (.scr ns), .sh (.int k), q2, q3, q4, q5])) ∧ bits cell ≤ 1048576 := by
    by_cases hlt : k < ns.length
    · refine ⟨ns[k], fun W q2 q3 q4 q5 => ?_, hb _ (List.getElem_mem hlt)⟩
      simp -implicitDefEqProofs [hlt, sx_nat]
    · refine ⟨37 + 31 * k, fun W q2 q3 q4 q5 => ?_, bits_lt (Nat.lt_of_lt_of_le (show _ < 2 ^ 10 by omega) (Nat.pow_le_pow_right (by decide) (by decide)))⟩
      simp -implicitDefEqProofs [hlt, bop_mul _ _ mk31]
  let f : Int → Int → Int := fun b one => (b * 50021 + one % 1000000000000000009) % 1000000000000000000000007
  have hf : ∀ b one : Int, bits (f b one) ≤ 100 ∧ 0 ≤ f b one := fun b one => by
    have e1 := Int.emod_nonneg (b * 50021 + one % 1000000000000000009) (show (1000000000000000000000007 : Int) ≠ 0 by decide)
    have e2 := Int.emod_lt_of_pos (b * 50021 + one % 1000000000000000009) (show (0 : Int) < 1000000000000000000000007 by decide)
    have e3 : f b one = (b * 50021 + one % 1000000000000000009) % 1000000000000000000000007 := rfl
    rw [e3]
    exact ⟨bits_to (j := 1000000000000000000000007) (by omega) (bits_lt (by decide)), e1⟩
  have fI : ∀ (l : List Int) (b : Int), bits b ≤ 100 → bits (l.foldl f b) ≤ 100 := by
    intro l
    induction l with
    | nil => exact fun b h => h
    | cons x l ih => exact fun b _ => ih _ (hf b x).1
  obtain ⟨bl, hbl⟩ : ∃ bl, bl = ns.foldl f (29 + 11 * (ns.length : Int)) := ⟨_, rfl⟩
  have hblb : bits bl ≤ 100 := by rw [hbl]; exact fI _ _ (bits_lt (by omega))
  have mc := mulOk_b (i := (cell.natAbs : Int)) (j := 14009) (a := 1048576) (b := 20) (bits_to (j := cell) (by omega) hcb) (bits_lt (by decide)) (by decide)
  have mbl := mulOk_b (i := bl) (j := 89) (a := 100) (b := 20) hblb (bits_lt (by decide)) (by decide)
  have m67 := mulOk_b (i := 67) (j := (k : Int)) (a := 10) (b := 10) (bits_lt (by decide)) (bits_lt (by omega)) (by decide)
  obtain ⟨t, ht⟩ : ∃ t : Int, bop .mul (.int 3) (.int (if cell < 0 then 1 else 0)) = some (.sh (.int t)) := by
    by_cases hlt : cell < 0
    · exact ⟨3, by rw [if_pos hlt, bop_mul 3 1 (by decide)]; rfl⟩
    · exact ⟨0, by rw [if_neg hlt, bop_mul 3 0 (by decide)]; rfl⟩
  obtain ⟨bg, hbg⟩ : ∃ bg, bg = ((cell.natAbs : Int) * 14009 + bl * 89 + t + 67 * (k : Int)) % 1000000000000000000000000103 := ⟨_, rfl⟩
  have bg0 : 0 ≤ bg := by rw [hbg]; exact Int.emod_nonneg _ (by decide)
  have bg1 : bits bg ≤ 100 := by
    have e2 := Int.emod_lt_of_pos ((cell.natAbs : Int) * 14009 + bl * 89 + t + 67 * (k : Int)) (show (0 : Int) < 1000000000000000000000000103 by decide)
    rw [← hbg] at e2
    exact bits_to (j := 1000000000000000000000000103) (by omega) (bits_lt (by decide))
  refine ⟨.lst [.int (max 0 ((cell.natAbs : Int) - 1000000000000000000)), .int bg, .int 0], ?_, ⟨_, bg, 0, rfl, by omega, bits_to (j := cell) (by omega) (bits_le hcb (by decide)), bg0, bg1, by decide, by decide⟩⟩
  refine ent 0 d_40 h40 rfl h fun q _ => ?_
  simp only [d_40, Nat.reduceSub, List.replicate, List.cons_append, List.nil_append]
  refine run1 [.sh (.scr ns), .sh (.int k), .sh (.int cell), .no, .no, .no] (by rw [x_set, hc]; simp -implicitDefEqProofs) ?_
  refine run1 [.sh (.scr ns), .sh (.int k), .sh (.int cell), .sh (.int (29 + 11 * (ns.length : Int))), .no, .no] (by simp -implicitDefEqProofs [bop_mul _ _ ml]) ?_
  have lp := for_foldI (W := pr.wd (callP pr q)) (t := .nm 4) (b := [.set 3 (.bin .mod (.bi .int [.bin .add (.bin .mul (.slot 3) (.cst (.int 50021))) (.bin .mod (.bi .int [.slot 4]) (.bin .add (.bin .pow (.cst (.int 10)) (.cst (.int 18))) (.cst (.int 9))))]) (.bin .add (.bin .pow (.cst (.int 10)) (.cst (.int 24))) (.cst (.int 7))))])
    (ρ := [.sh (.scr ns), .sh (.int k), .sh (.int cell), .sh (.int (29 + 11 * (ns.length : Int))), .no, .no]) (fun s : Int × J => bits s.1 ≤ 100) D.int ns
    (fun _ s => [.sh (.scr ns), .sh (.int k), .sh (.int cell), .sh (.int s.1), jS s.2, .no]) (fun s one => (f s.1 one, some (.sh (.int one)))) (29 + 11 * (ns.length : Int), none) rfl (bits_lt (by show (29 + 11 * (ns.length : Int)).natAbs < _; omega)) (fun s one _ hs => ⟨by
      have m1 := mulOk_b (j := 50021) (b := 20) hs (bits_lt (by decide)) (by decide)
      simp -implicitDefEqProofs [bop_mul _ _ m1, pow18, pow24, bop_mod, f, jS_1], (hf _ _).1⟩)
  have fst_eq : ∀ (l : List Int) (s : Int × J), (l.foldl (fun s one => (f s.1 one, some (.sh (.int one)))) s).1 = l.foldl f s.1 := by
    intro l
    induction l with
    | nil => exact fun _ => rfl
    | cons x l ih => exact fun s => ih _
  refine run1 [.sh (.scr ns), .sh (.int k), .sh (.int cell), .sh (.int bl), jS (ns.foldl (fun s one => (f s.1 one, some (.sh (.int one)))) (29 + 11 * (ns.length : Int), none)).2, .no] (by
    simp -implicitDefEqProofs only [x_for, i_seq, v_slot, List.getElem?_cons_zero, kRead_1, kIt_1, resd_1, seq_s, kSeq_1, kFor_1]
    rw [iD, lp, fst_eq, hbl]) ?_
  generalize (ns.foldl (fun s one => (f s.1 one, some (Res.sh (D.int one)))) (29 + 11 * (ns.length : Int), none)).2 = jq
  refine run1 [.sh (.scr ns), .sh (.int k), .sh (.int cell), .sh (.int bl), jS jq, .sh (.int bg)] (by simp -implicitDefEqProofs [bop_mul _ _ mc, bop_mul _ _ mbl, bop_mul _ _ m67, ht, pow27, bop_mod, hbg]) ?_
  simp -implicitDefEqProofs [pow18]
end
end Lw
/-! The laws' own reckoning with elements. -/
namespace Lw
open PySem Dp
def trimN : Nat → List Int → List Int
  | 0, l => l
  | k + 1, l => if trimC (trimN k l) then (trimN k l).dropLast else trimN k l
theorem trimC_no {l : List Int} (h : trimC l = false) : Rw.trim l = l := by
  rcases List.eq_nil_or_concat l with rfl | ⟨m, x, rfl⟩
  · rfl
  · simp [trimC] at h
    simp [Rw.trim_snoc, h]
theorem trimC_yes {l : List Int} (h : trimC l = true) : Rw.trim l.dropLast = Rw.trim l ∧ l.dropLast.length + 1 = l.length := by
  rcases List.eq_nil_or_concat l with rfl | ⟨m, x, rfl⟩
  · cases h
  · simp [trimC] at h
    subst h
    simp [Rw.trim_snoc]
theorem trimN_eq (l : List Int) : ∀ k, Rw.trim (trimN k l) = Rw.trim l ∧ (trimC (trimN k l) = true → (trimN k l).length + k = l.length)
  | 0 => ⟨rfl, fun _ => rfl⟩
  | k + 1 => by
    have ⟨h1, h2⟩ := trimN_eq l k
    cases hc : trimC (trimN k l) with
    | true =>
      have ⟨g1, g2⟩ := trimC_yes hc
      have h3 := h2 hc
      simp only [trimN, hc, if_true]
      exact ⟨g1.trans h1, fun _ => by omega⟩
    | false =>
      simp only [trimN, hc, Bool.false_eq_true, if_false]
      exact ⟨h1, fun h => by cases h⟩
theorem trimN_end (l : List Int) : trimN l.length l = Rw.trim l := by
  have ⟨h1, h2⟩ := trimN_eq l l.length
  rw [← h1]
  cases hc : trimC (trimN l.length l) with
  | false => exact (trimC_no hc).symm
  | true =>
    have h3 := h2 hc
    have : trimN l.length l = [] := List.eq_nil_of_length_eq_zero (by omega)
    rw [this] at hc; cases hc
theorem trimN_len (l : List Int) : ∀ k, (trimN k l).length ≤ l.length
  | 0 => Nat.le_refl _
  | k + 1 => by
    have := trimN_len l k
    simp only [trimN]
    split
    · rw [List.length_dropLast]; omega
    · exact this
@[simp] theorem cut_last (l : List Int) : cutD (.lst (iD l)) none (some (-1)) = some (.fr (.lst (iD l.dropLast))) := by
  simp only [cutD, HT.sIx]
  have e : ((-1 : Int) + (l.length : Int)).toNat = l.length - 1 := by omega
  simp [e, iD, List.dropLast_eq_take, List.map_take]
theorem tst_trim {W : Wd} {l : List Int} {a b c d : Slot} : tst W (.and (.cmp .gt (.bi .len [.slot 2]) (.cst (.int 0))) (.cmp .eq (.idx (.slot 2) (.neg (.cst (.int 1)))) (.cst (.int 0)))) [a, b, .ow (.lst (iD l)), c, d] = .ok (trimC l, [a, b, .ow (.lst (iD l)), c, d]) := by
  rcases List.eq_nil_or_concat l with rfl | ⟨m, x, rfl⟩
  · simp [trimC]
  · simp [trimC, iD_app, iD_cons]
theorem bool_ite {α : Type} (b : Bool) (x y : α) : (if b = true then x else y) = (if b then x else y) := rfl
section
variable {pr : Pr} {m : Nat}
theorem sp_43 (h43 : pr.defs 43 = some d_43) (h : 1 ≤ m) {p : Int} (hp : 0 < p) (xs : List Int) (hx : xs.length ≤ 10000000) :
    callP pr m 43 [.sh (.int p), .sh (.lst (iD xs))] = .ok (.sh (.tup (iD (Rw.cut p xs)))) [.no, .no] := by
  refine ent 0 d_43 h43 rfl h fun n _ => ?_
  simp -implicitDefEqProofs [d_43]
  rw [cmpI_map (fun a => a % p) (by simp) (by omega) (fun a _ => by simp [bop_mod hp])]
  simp -implicitDefEqProofs [rng_1 (z := (xs.length : Int)) rfl (show xs.length ≤ 16777216 by omega)]
  rw [forN_idx (mk := fun ρ j => [.sh (.int p), .sh (.lst (iD xs)), .ow (.lst (iD (trimN j (xs.map (· % p))))), jS (if j = 0 then none else some (.sh (.int ((j : Int) - 1)))), .no])]
  · have := trimN_end (xs.map (· % p))
    rw [List.length_map] at this
    rw [this]
    simp -implicitDefEqProofs [Rw.cut]
  · rfl
  · intro j hj
    simp only [fst_1, bindT_1, List.getElem?_cons_succ, List.getElem?_cons_zero, kSetR_4, kT_1, List.set_cons_succ, List.set_cons_zero, exs_2, x_ite, tst_trim, brX_5, trimN]
    cases hc : trimC (trimN j (xs.map (· % p))) <;> simp -implicitDefEqProofs [jS_1]
theorem rg_wh (W : Wd) (as : Slot) : True := trivial
theorem sp_44 (h44 : pr.defs 44 = some d_44) (h43 : pr.defs 43 = some d_43) (h : 2 ≤ m) {r : Rg} (hr : r.ok) {x y : V} (hx : r.el x) (hy : r.el y) (hs : x.sz ≤ 1000000) (hs2 : y.sz ≤ 1000000) :
    callP pr m 44 [.sh (rgD r), .sh (vD x), .sh (vD y)] = .ok (.sh (vD (r.add x y))) [.no, .no, .no] := by
  refine ent 1 d_44 h44 rfl h fun n hn => ?_
  cases r with
  | wh =>
    obtain ⟨i, rfl⟩ := el_wh hx
    obtain ⟨j, rfl⟩ := el_wh hy
    simp -implicitDefEqProofs [d_44, rgD, Rg.add, V.i]
  | py p =>
    obtain ⟨xs, rfl, hl⟩ := el_by hx
    obtain ⟨ys, rfl, hk⟩ := el_by hy
    simp only [V.sz] at hs hs2
    have z1 := mul_lz 0 (z := max (xs.length : Int) (ys.length : Int) - (xs.length : Int)) (k := max xs.length ys.length - xs.length) (by omega) (by omega)
    have z2 := mul_lz 0 (z := max (xs.length : Int) (ys.length : Int) - (ys.length : Int)) (k := max xs.length ys.length - ys.length) (by omega) (by omega)
    have a1 := add_li (xs := xs) (ys := List.replicate (max xs.length ys.length - xs.length) 0) (by simp; omega)
    have a2 := add_li (xs := ys) (ys := List.replicate (max xs.length ys.length - ys.length) 0) (by simp; omega)
    have r1 := rng_1 (z := max (xs.length : Int) (ys.length : Int)) (n := max xs.length ys.length) (by omega) (by omega)
    have t := sp_43 h43 hn (Rg.pos hr) (Rw.addL xs ys) (by rw [addL_len]; omega)
    simp -implicitDefEqProofs [d_44, rgD, z1, z2, a1, a2, r1]
    have p1 : xs ++ List.replicate (max xs.length ys.length - xs.length) 0 = Rw.pad (max xs.length ys.length) xs := rfl
    have p2 : ys ++ List.replicate (max xs.length ys.length - ys.length) 0 = Rw.pad (max xs.length ys.length) ys := rfl
    have q1 := Rw.pad_len (k := max xs.length ys.length) (l := xs) (Nat.le_max_left _ _)
    have q2 := Rw.pad_len (k := max xs.length ys.length) (l := ys) (Nat.le_max_right _ _)
    rw [p1, p2]
    rw [cmpN_map (fun k => Rw.co (Rw.pad (max xs.length ys.length) xs) k + Rw.co (Rw.pad (max xs.length ys.length) ys) k) (by simp) (by simp; omega) (fun a ha => by
      have ha' := List.mem_range.1 ha
      simp -implicitDefEqProofs [ixi_nat, co_get (l := Rw.pad (max xs.length ys.length) xs) (i := a) (by omega), co_get (l := Rw.pad (max xs.length ys.length) ys) (i := a) (by omega)])]
    have e : (List.range (max xs.length ys.length)).map (fun k => Rw.co (Rw.pad (max xs.length ys.length) xs) k + Rw.co (Rw.pad (max xs.length ys.length) ys) k) = Rw.addL xs ys := by
      apply List.ext_getElem
      · simp [addL_len]
      · intro k h1 h2
        simp only [List.length_map, List.length_range] at h1
        simp only [Rw.addL, List.getElem_map, List.getElem_range, List.getElem_zipWith]
        simp [Rw.co, q1, q2, h1]
    rw [e]
    simp -implicitDefEqProofs [t, Rg.add, V.l]
/-- the inner loop of a product -/
theorem row_loopN {W : Wd} (xs ys l : List Int) (i : Nat) (a : Int) (ha : xs[i]? = some a) (hl : i + ys.length ≤ l.length) (hm : ∀ y ∈ ys, mulOk a y = true) (s0 : Slot) (q5 : J) :
    ∃ p5 : J, forQ W (.nm 5) [.setIx 3 (.bin .add (.slot 4) (.slot 5)) (.bin .add (.idx (.slot 3) (.bin .add (.slot 4) (.slot 5))) (.bin .mul (.idx (.slot 1) (.slot 4)) (.idx (.slot 2) (.slot 5))))] (nD (List.range ys.length)) [s0, .sh (.tup (iD xs)), .sh (.tup (iD ys)), .ow (.lst (iD l)), .sh (.int i), jS q5]
      = .nx [s0, .sh (.tup (iD xs)), .sh (.tup (iD ys)), .ow (.lst (iD (Rw.rowGo l i a ys))), .sh (.int i), jS p5] := by
  refine ⟨if ys.length = 0 then q5 else some (.sh (.int ((ys.length : Int) - 1))), ?_⟩
  rw [forN_idx (mk := fun ρ j => [s0, .sh (.tup (iD xs)), .sh (.tup (iD ys)), .ow (.lst (iD (Rw.rowGo l i a (ys.take j)))), .sh (.int i), jS (if j = 0 then q5 else some (.sh (.int ((j : Int) - 1))))])]
  · simp
  · simp [Rw.rowGo]
  · intro j hj
    have hlen : i + j < (Rw.rowGo l i a (ys.take j)).length := by rw [Rw.rowGo_len]; omega
    have e1 : (i : Int) + (j : Int) = ((i + j : Nat) : Int) := by omega
    have hy : mulOk a ys[j] = true := hm _ (List.getElem_mem hj)
    rw [take_snoc hj, rowGo_snoc]
    have f1 : ixD (.lst (iD (Rw.rowGo l i a (ys.take j)))) (.int ((i : Int) + (j : Int))) = some (.int (Rw.co (Rw.rowGo l i a (ys.take j)) (i + j))) := by rw [e1, ixi_nat, co_get hlen]; rfl
    have f2 : ∀ v, setAt (.int ((i : Int) + (j : Int))) (.int v) (.lst (iD (Rw.rowGo l i a (ys.take j)))) = some (.lst (iD ((Rw.rowGo l i a (ys.take j)).set (i + j) v))) := fun v => by rw [e1, set_i hlen]
    have f3 : ixD (.tup (iD xs)) (.int (i : Int)) = some (.int a) := by rw [txi_nat, ha]; rfl
    have f4 : ixD (.tup (iD ys)) (.int (j : Int)) = some (.int ys[j]) := by rw [txi_nat, List.getElem?_eq_getElem hj]; rfl
    simp -implicitDefEqProofs [bop_mul _ _ hy, f1, f2, f3, f4, Rw.bump, Nat.min_eq_left (Nat.le_of_lt hj), jS_1]
theorem sp_45 (h45 : pr.defs 45 = some d_45) (h43 : pr.defs 43 = some d_43) (h : 2 ≤ m) {r : Rg} (hr : r.ok) {x y : V} (hx : r.el x) (hy : r.el y) (hs : x.sz + y.sz ≤ 1000000) :
    callP pr m 45 [.sh (rgD r), .sh (vD x), .sh (vD y)] = .ok (.sh (vD (r.mul x y))) [.no, .no, .no] := by
  refine ent 1 d_45 h45 rfl h fun n hn => ?_
  cases r with
  | wh =>
    obtain ⟨i, rfl⟩ := el_wh hx
    obtain ⟨j, rfl⟩ := el_wh hy
    have := mulOk_b (i := i) (j := j) (Nat.le_refl _) (Nat.le_refl _) (by simp only [V.sz] at hs; omega)
    simp -implicitDefEqProofs [d_45, rgD, Rg.mul, V.i, bop_mul _ _ this]
  | py p =>
    obtain ⟨xs, rfl, hl⟩ := el_by hx
    obtain ⟨ys, rfl, hk⟩ := el_by hy
    simp only [V.sz] at hs
    have f0 := mul_lz 0 (z := (xs.length : Int) + (ys.length : Int)) (k := xs.length + ys.length) (by omega) (by omega)
    have r1 := rng_1 (z := (xs.length : Int)) (n := xs.length) rfl (by omega)
    have r2 := rng_1 (z := (ys.length : Int)) (n := ys.length) rfl (by omega)
    have t := sp_43 h43 hn (Rg.pos hr) (Rw.mulL xs ys) (by rw [mulL_len]; omega)
    simp -implicitDefEqProofs [d_45, rgD, f0, r1]
    let J : Nat → Rho → Prop := fun j ρ => ∃ q4 q5 : J, ρ = [.sh (.tup [.str "by", .int p]), .sh (.tup (iD xs)), .sh (.tup (iD ys)), .ow (.lst (iD (Rw.convGo (List.replicate (xs.length + ys.length) 0) 0 ys (xs.take j)))), jS q4, jS q5]
    refine seq_ex (I := J xs.length) (forN_ex J ⟨none, none, rfl⟩ ?_) ?_
    · rintro j _ hj ⟨q4, q5, rfl⟩
      obtain ⟨p5, e⟩ := row_loopN (W := pr.wd (callP pr n)) xs ys (Rw.convGo (List.replicate (xs.length + ys.length) 0) 0 ys (xs.take j)) j xs[j] (List.getElem?_eq_getElem hj) (by rw [Rw.convGo_len]; simp; omega) (fun b hb => by
          have h1 := hl.lo _ (List.getElem_mem hj)
          have h2 := hk.lo b hb
          have h3 : p = 2 ∨ p = 3 ∨ p = 5 := hr
          exact mulOk_b (a := 3) (b := 3) (bits_lt (by omega)) (bits_lt (by omega)) (by decide)) (.sh (.tup [.str "by", .int p])) q5
      refine ⟨_, by simp -implicitDefEqProofs [r2, e]; rfl, some (.sh (.int j)), p5, ?_⟩
      rw [take_snoc hj, convGo_snoc, List.length_take, Nat.min_eq_left (Nat.le_of_lt hj), Nat.zero_add]
      rfl
    · rintro _ ⟨q4, q5, rfl⟩
      rw [List.take_length, show Rw.convGo (List.replicate (xs.length + ys.length) 0) 0 ys xs = Rw.mulL xs ys from rfl]
      simp -implicitDefEqProofs [t, Rg.mul, V.l]
theorem sp_46 (h46 : pr.defs 46 = some d_46) (h43 : pr.defs 43 = some d_43) (h : 2 ≤ m) {r : Rg} (hr : r.ok) {x : V} (hx : r.el x) (hs : x.sz ≤ 1000000) :
    callP pr m 46 [.sh (rgD r), .sh (vD x)] = .ok (.sh (vD (r.neg x))) [.no, .no] := by
  refine ent 1 d_46 h46 rfl h fun n hn => ?_
  cases r with
  | wh =>
    obtain ⟨i, rfl⟩ := el_wh hx
    simp -implicitDefEqProofs [d_46, rgD, Rg.neg, V.i]
  | py p =>
    obtain ⟨xs, rfl, hl⟩ := el_by hx
    simp only [V.sz] at hs
    have t := sp_43 h43 hn (Rg.pos hr) (xs.map (- ·)) (by simp; omega)
    simp -implicitDefEqProofs [d_46, rgD]
    rw [cmpI_map (- ·) (by simp) (by omega) (fun a _ => by simp)]
    simp -implicitDefEqProofs [t, Rg.neg, V.l]
theorem sp_47 (h47 : pr.defs 47 = some d_47) (h : 1 ≤ m) (r : Rg) : callP pr m 47 [.sh (rgD r)] = .ok (.sh (vD r.zero)) [.no] := by
  refine ent 0 d_47 h47 rfl h fun n hn => ?_
  cases r <;> simp -implicitDefEqProofs [d_47, rgD, Rg.zero]
theorem sp_48 (h48 : pr.defs 48 = some d_48) (h : 1 ≤ m) (r : Rg) : callP pr m 48 [.sh (rgD r)] = .ok (.sh (vD r.one)) [.no] := by
  refine ent 0 d_48 h48 rfl h fun n hn => ?_
  cases r <;> simp -implicitDefEqProofs [d_48, rgD, Rg.one, iD_cons]
end
end Lw
/-! Drawn rings and elements. -/
namespace Lw
open PySem Dp
/-- a rest by another one, told -/
def Rg.rstB : Rg → V → V → Bool
  | .wh, x, y => decide (0 ≤ x.i) && decide (x.i < y.i.natAbs) | .py _, x, y => decide (x.l.length < y.l.length)
theorem rstB_iff (r : Rg) (x y : V) : r.rstB x y = true ↔ r.rst x y := by
  cases r <;> simp [Rg.rstB, Rg.rst]
section
variable {pr : Pr} {m : Nat}
theorem sp_42 (h42 : pr.defs 42 = some d_42) (h41 : pr.defs 41 = some d_41) (h : 2 ≤ m) {n : Nat} {s : D} (hs : Spr (n + 1) s) :
    ∃ r s', callP pr m 42 [.io s] = .ok (.sh (rgD r)) [.io s'] ∧ Spr n s' ∧ r.ok := by
  obtain ⟨m', rfl⟩ : ∃ k, m = k + 1 := ⟨m - 1, by omega⟩
  obtain ⟨v, s', e, h1, h2, h3⟩ := sp_41 h41 (m := m') (by omega) hs 4 (by decide) (bits_lt (n := 10) (by decide) |> fun h => bits_le h (by decide))
  have hv : v = 0 ∨ v = 1 ∨ v = 2 ∨ v = 3 := by omega
  have go : ∀ r : Rg, ixD (.lst [.tup [.str "whole"], .tup [.str "by", .int 2], .tup [.str "by", .int 3], .tup [.str "by", .int 5]]) (.int v) = some (rgD r) → callP pr (m' + 1) 42 [.io s] = .ok (.sh (rgD r)) [.io s'] := fun r hr => by
    refine (callP_at d_42 h42 rfl).trans ?_
    simp -implicitDefEqProofs [d_42, e, hr]
  rcases hv with rfl | rfl | rfl | rfl
  · exact ⟨.wh, s', go _ (by simp [rgD]), h1, trivial⟩
  · exact ⟨.py 2, s', go _ (by simp [rgD]), h1, .inl rfl⟩
  · exact ⟨.py 3, s', go _ (by simp [rgD]), h1, .inr (.inl rfl)⟩
  · exact ⟨.py 5, s', go _ (by simp [rgD]), h1, .inr (.inr rfl)⟩
theorem sp_49 (h49 : pr.defs 49 = some d_49) (h43 : pr.defs 43 = some d_43) (h41 : pr.defs 41 = some d_41) (h : 2 ≤ m) {n : Nat} {s : D} (hs : Spr (n + 20) s) {r : Rg} (hr : r.ok)
    (wide most : Int) (hw : 0 ≤ wide) (hwb : bits wide ≤ 97) (hm : 0 ≤ most) (hm2 : most ≤ 9) :
    ∃ x s', callP pr m 49 [.io s, .sh (rgD r), .sh (.int wide), .sh (.int most)] = .ok (.sh (vD x)) [.io s', .no, .no, .no] ∧ Spr n s' ∧ r.el x ∧ x.sz ≤ 100 := by
  obtain ⟨m', rfl⟩ : ∃ k, m = k + 1 := ⟨m - 1, by omega⟩
  have m2 := mulOk_b (i := 2) (j := wide) (a := 10) (bits_lt (by decide)) hwb (by decide)
  cases r with
  | wh =>
    have b2 : bits (2 * wide) ≤ 99 := bits_mul (a := 2) (bits_lt (by decide)) hwb
    have bw : bits (2 * wide + 1) ≤ 100 := bits_add b2 (bits_lt (Nat.lt_of_lt_of_le (show _ < 2 ^ 2 by decide) (Nat.pow_le_pow_right (by decide) (by decide))))
    obtain ⟨v, s', e, h1, h2, h3⟩ := sp_41 h41 (m := m') (by omega) (hs.mono (k := n + 1) (by omega)) (2 * wide + 1) (by omega) (bits_le bw (by decide))
    refine ⟨.n (v - wide), s', ?_, h1, trivial, ?_⟩
    · refine (callP_at d_49 h49 rfl).trans ?_
      simp -implicitDefEqProofs [d_49, rgD, e, bop_mul _ _ m2]
    · exact bits_to (j := wide) (by omega) (bits_le hwb (by decide))
  | py p =>
    have hp : p = 2 ∨ p = 3 ∨ p = 5 := hr
    have hpp : 0 < p := by omega
    obtain ⟨v, s1, e, h1, h2, h3⟩ := sp_41 h41 (m := m') (by omega) (hs.mono (k := n + 12) (by omega)) (most + 2) (by omega) (bits_lt (n := 10) (by omega) |> fun h => bits_le h (by decide))
    obtain ⟨k, hk⟩ : ∃ k : Nat, v = k := ⟨v.toNat, by omega⟩
    subst hk
    let I : Nat → Rho → Prop := fun j ρ => ∃ s' l q, ρ = [.io s', .sh (.tup [.str "by", .int p]), .sh (.int wide), .sh (.int most), .ow (.lst (iD l)), jS q] ∧ l.length = j ∧ Spr (n + 11 - j) s'
    obtain ⟨ρ', e1, s2, l, q, rfl, hl, hs2⟩ := forN_ex (W := pr.wd (callP pr m')) (t := .nm 5) (b := [.app 4 (.call 41 [.io 0, .sh (.idx (.slot 1) (.cst (.int 1)))])]) (n := k)
      (ρ := [.io s1, .sh (.tup [.str "by", .int p]), .sh (.int wide), .sh (.int most), .ow (.lst []), .no]) I ⟨s1, [], none, rfl, rfl, h1.mono (by omega)⟩ (by
        rintro j _ hj ⟨s', l, q, rfl, hl, hs'⟩
        obtain ⟨u, s3, e3, g1, g2, g3⟩ := sp_41 h41 (m := m') (by omega) (n := n + 11 - (j + 1)) (hs'.mono (by omega)) p hpp (bits_lt (n := 10) (by omega) |> fun h => bits_le h (by decide))
        refine ⟨_, by simp -implicitDefEqProofs [e3, app_i u (xs := l) (by omega)]; rfl, s3, l ++ [u], some (.sh (.int j)), rfl, by simp [hl], g1⟩)
    have t := sp_43 h43 (m := m') (by omega) hpp l (by omega)
    refine ⟨.f (Rw.cut p l), s2, ?_, hs2.mono (by omega), Rw.el_cut hpp l, ?_⟩
    · refine (callP_at d_49 h49 rfl).trans ?_
      simp -implicitDefEqProofs [d_49, rgD, e, rng_1 (z := (k : Int)) rfl (show k ≤ 16777216 by omega), e1, t]
    · have := Rw.cut_len p l
      show (Rw.cut p l).length ≤ 100
      omega
theorem sp_50 (h50 : pr.defs 50 = some d_50) (h : 1 ≤ m) {r : Rg} (hr : r.ok) {x : V} (hx : r.el x) (hs : x.sz ≤ 1000000) :
    callP pr m 50 [.sh (rgD r), .sh (vD x)] = .ok (.sh (.bl true)) [.no, .no] := by
  refine ent 0 d_50 h50 rfl h fun n hn => ?_
  cases r with
  | wh =>
    obtain ⟨i, rfl⟩ := el_wh hx
    simp -implicitDefEqProofs [d_50, rgD]
  | py p =>
    obtain ⟨xs, rfl, hl⟩ := el_by hx
    simp only [V.sz] at hs
    simp -implicitDefEqProofs [d_50, rgD]
    rw [cmpI_to (fun a => .bl true) (by simp) (by omega) (fun a ha => by
      have := hl.lo a ha
      simp -implicitDefEqProofs [this.1, this.2])]
    have ea : ∀ l : List Int, (l.all fun _ => true) = true := fun l => List.all_eq_true.2 fun _ _ => rfl
    simp -implicitDefEqProofs [all_l (fun _ : Int => true) xs, ea]
    rcases List.eq_nil_or_concat xs with rfl | ⟨ys, y, rfl⟩
    · simp
    · have := Rw.tail_snoc (by simpa using hl.tl)
      simp -implicitDefEqProofs [iD_app, iD_cons, this, ea]
theorem sp_51 (h51 : pr.defs 51 = some d_51) (h50 : pr.defs 50 = some d_50) (h : 2 ≤ m) {r : Rg} (hr : r.ok) {x y : V} (hx : r.el x) (hy : r.el y) (hs : x.sz ≤ 1000000) :
    callP pr m 51 [.sh (rgD r), .sh (vD x), .sh (vD y)] = .ok (.sh (.bl (r.rstB x y))) [.no, .no, .no] := by
  refine ent 1 d_51 h51 rfl h fun n hn => ?_
  have t := sp_50 h50 hn hr hx hs
  cases r with
  | wh =>
    obtain ⟨i, rfl⟩ := el_wh hx
    obtain ⟨j, rfl⟩ := el_wh hy
    simp only [rgD, vD_n] at t
    by_cases h0 : 0 ≤ i
    · simp -implicitDefEqProofs [d_51, rgD, t, Rg.rstB, V.i, h0]; rfl
    · simp -implicitDefEqProofs [d_51, rgD, t, Rg.rstB, V.i, h0]
  | py p =>
    obtain ⟨xs, rfl, hl⟩ := el_by hx
    obtain ⟨ys, rfl, hk⟩ := el_by hy
    simp only [rgD, vD_f] at t
    simp -implicitDefEqProofs [d_51, rgD, t, Rg.rstB, V.l]; rfl
end
end Lw
/-! The named defs of rings and elements. -/
namespace Lw
open PySem Dp
/-- of_integer, for laws that ask it -/
structure G3 (pr : Pr) : Prop where
  h8 : pr.defs 8 = some d_8
  h16 : pr.defs 16 = some d_16
  m41 : pr.meth 4 1 = some 8
  m51 : pr.meth 5 1 = some 16
def Rg.iOf : Rg → Nat
  | .wh => 8 | .py _ => 16
theorem G3.mOf {pr : Pr} (g : G3 pr) (r : Rg) : pr.meth r.cl 1 = some r.iOf := by cases r; exact g.m41; exact g.m51
section
variable {pr : Pr} (g : G1 pr) {m : Nat} {r : Rg}
include g
theorem vs_of (g3 : G3 pr) (h : 2 ≤ m) (hr : r.ok) (k : Int) : callP pr m r.iOf [.sh (obD r), .sh (.int k)] = .ok (.sh (vD (r.ofInt k))) [.no, .no] := by
  cases r with
  | wh =>
    refine ent 0 d_8 g3.h8 rfl (by omega) fun n hn => ?_
    simp -implicitDefEqProofs [d_8, Rg.ofInt]
  | py p =>
    refine ent 1 d_16 g3.h16 rfl h fun n hn => ?_
    have t := sp_15 g hn (Rg.pos hr) [k] (by simp)
    rw [iD_cons, iD_nil] at t
    simp -implicitDefEqProofs [d_16, Rg.ofInt, g.m56, t]
theorem sp_24 (h24 : pr.defs 24 = some d_24) (h : 3 ≤ m) (hr : r.ok) : callP pr m 24 [.sh (rgD r)] = .ok (.sh (.bl true)) [.no] := by
  refine ent 2 d_24 h24 rfl h fun n hn => ?_
  simp -implicitDefEqProofs [d_24, sp_22 g hn hr]
theorem sp_24n (h24 : pr.defs 24 = some d_24) (h : 3 ≤ m) {d : D} (hd : NoRg d) : callP pr m 24 [.sh d] = .ok (.sh (.bl false)) [.no] := by
  refine ent 2 d_24 h24 rfl h fun n hn => ?_
  simp -implicitDefEqProofs [d_24, sp_22n g hn hd]
theorem sp_29 (h29 : pr.defs 29 = some d_29) (h : 5 ≤ m) (hr : r.ok) (d : D) (hd : datL d = true) : callP pr m 29 [.sh (rgD r), .sh d] = .ok (.sh (.bl (r.hasB d))) [.no, .no] := by
  refine ent 4 d_29 h29 rfl h fun n hn => ?_
  simp -implicitDefEqProofs [d_29, sp_26 g hn hr, g.mHas r, vs_has g (m := n) (by omega) r d hd]
theorem sp_30 (h30 : pr.defs 30 = some d_30) (h : 5 ≤ m) (hr : r.ok) : callP pr m 30 [.sh (rgD r)] = .ok (.sh (vD r.zero)) [.no] := by
  refine ent 4 d_30 h30 rfl h fun n hn => ?_
  simp -implicitDefEqProofs [d_30, sp_26 g hn hr, g.f1 r]
theorem sp_31 (h31 : pr.defs 31 = some d_31) (h : 5 ≤ m) (hr : r.ok) : callP pr m 31 [.sh (rgD r)] = .ok (.sh (vD r.one)) [.no] := by
  refine ent 4 d_31 h31 rfl h fun n hn => ?_
  simp -implicitDefEqProofs [d_31, sp_26 g hn hr, g.f2 r]
theorem sp_32 (g3 : G3 pr) (h32 : pr.defs 32 = some d_32) (h : 5 ≤ m) (hr : r.ok) (k : Int) : callP pr m 32 [.sh (rgD r), .sh (.int k)] = .ok (.sh (vD (r.ofInt k))) [.no, .no] := by
  refine ent 4 d_32 h32 rfl h fun n hn => ?_
  simp -implicitDefEqProofs [d_32, sp_26 g hn hr, g3.mOf r, vs_of g g3 (m := n) (by omega) hr k]
variable (h27 : pr.defs 27 = some d_27) (h28 : pr.defs 28 = some d_28) (h33 : pr.defs 33 = some d_33)

theorem sp_29r (h29 : pr.defs 29 = some d_29) (h : 7 ≤ m) {d : D} (hd : NoRg d) (hw : Wt 3 1000 d) (x : D) : callP pr m 29 [.sh d, .sh x] = .exc 1 d := by
  refine ent 6 d_29 h29 rfl h fun n hn => ?_
  simp -implicitDefEqProofs [d_29, sp_26n g hn hd hw]
theorem sp_30r (h30 : pr.defs 30 = some d_30) (h : 7 ≤ m) {d : D} (hd : NoRg d) (hw : Wt 3 1000 d) : callP pr m 30 [.sh d] = .exc 1 d := by
  refine ent 6 d_30 h30 rfl h fun n hn => ?_
  simp -implicitDefEqProofs [d_30, sp_26n g hn hd hw]
theorem sp_31r (h31 : pr.defs 31 = some d_31) (h : 7 ≤ m) {d : D} (hd : NoRg d) (hw : Wt 3 1000 d) : callP pr m 31 [.sh d] = .exc 1 d := by
  refine ent 6 d_31 h31 rfl h fun n hn => ?_
  simp -implicitDefEqProofs [d_31, sp_26n g hn hd hw]
theorem sp_32r (h32 : pr.defs 32 = some d_32) (h : 7 ≤ m) {d : D} (hd : NoRg d) (hw : Wt 3 1000 d) (x : D) : callP pr m 32 [.sh d, .sh x] = .exc 1 d := by
  refine ent 6 d_32 h32 rfl h fun n hn => ?_
  simp -implicitDefEqProofs [d_32, sp_26n g hn hd hw]
theorem sp_34r (h34 : pr.defs 34 = some d_34) (h : 7 ≤ m) {d : D} (hd : NoRg d) (hw : Wt 3 1000 d) (x : D) (y : D) : callP pr m 34 [.sh d, .sh x, .sh y] = .exc 1 d := by
  refine ent 6 d_34 h34 rfl h fun n hn => ?_
  simp -implicitDefEqProofs [d_34, sp_26n g hn hd hw]
theorem sp_35r (h35 : pr.defs 35 = some d_35) (h : 7 ≤ m) {d : D} (hd : NoRg d) (hw : Wt 3 1000 d) (x : D) (y : D) : callP pr m 35 [.sh d, .sh x, .sh y] = .exc 1 d := by
  refine ent 6 d_35 h35 rfl h fun n hn => ?_
  simp -implicitDefEqProofs [d_35, sp_26n g hn hd hw]
theorem sp_36r (h36 : pr.defs 36 = some d_36) (h : 7 ≤ m) {d : D} (hd : NoRg d) (hw : Wt 3 1000 d) (x : D) (y : D) : callP pr m 36 [.sh d, .sh x, .sh y] = .exc 1 d := by
  refine ent 6 d_36 h36 rfl h fun n hn => ?_
  simp -implicitDefEqProofs [d_36, sp_26n g hn hd hw]
theorem sp_37r (h37 : pr.defs 37 = some d_37) (h : 7 ≤ m) {d : D} (hd : NoRg d) (hw : Wt 3 1000 d) (x : D) (y : D) : callP pr m 37 [.sh d, .sh x, .sh y] = .exc 1 d := by
  refine ent 6 d_37 h37 rfl h fun n hn => ?_
  simp -implicitDefEqProofs [d_37, sp_26n g hn hd hw]
theorem sp_38r (h38 : pr.defs 38 = some d_38) (h : 7 ≤ m) {d : D} (hd : NoRg d) (hw : Wt 3 1000 d) (x : D) (y : D) : callP pr m 38 [.sh d, .sh x, .sh y] = .exc 1 d := by
  refine ent 6 d_38 h38 rfl h fun n hn => ?_
  simp -implicitDefEqProofs [d_38, sp_26n g hn hd hw]
theorem sp_39r (h39 : pr.defs 39 = some d_39) (h : 7 ≤ m) {d : D} (hd : NoRg d) (hw : Wt 3 1000 d) (x : D) (y : D) : callP pr m 39 [.sh d, .sh x, .sh y] = .exc 1 d := by
  refine ent 6 d_39 h39 rfl h fun n hn => ?_
  simp -implicitDefEqProofs [d_39, sp_26n g hn hd hw]
include h27 h28
theorem sp_34a (h34 : pr.defs 34 = some d_34) (h : 7 ≤ m) (hr : r.ok) {d : D} (hd : Bad r d) (y : D) : callP pr m 34 [.sh (rgD r), .sh d, .sh y] = .exc 3 d := by
  refine ent 6 d_34 h34 rfl h fun n hn => ?_
  simp -implicitDefEqProofs [d_34, sp_26 g (m := n) (by omega) hr, sp_28a g h27 h28 hn hd y]
theorem sp_34b (h34 : pr.defs 34 = some d_34) (h : 7 ≤ m) (hr : r.ok) {x : V} (hx : r.el x) (hs : x.sz ≤ 1000000) {d : D} (hd : Bad r d) : callP pr m 34 [.sh (rgD r), .sh (vD x), .sh d] = .exc 3 d := by
  refine ent 6 d_34 h34 rfl h fun n hn => ?_
  simp -implicitDefEqProofs [d_34, sp_26 g (m := n) (by omega) hr, sp_28b g h27 h28 hn hx hs hd]
theorem sp_35a (h35 : pr.defs 35 = some d_35) (h : 7 ≤ m) (hr : r.ok) {d : D} (hd : Bad r d) (y : D) : callP pr m 35 [.sh (rgD r), .sh d, .sh y] = .exc 3 d := by
  refine ent 6 d_35 h35 rfl h fun n hn => ?_
  simp -implicitDefEqProofs [d_35, sp_26 g (m := n) (by omega) hr, sp_28a g h27 h28 hn hd y]
theorem sp_35b (h35 : pr.defs 35 = some d_35) (h : 7 ≤ m) (hr : r.ok) {x : V} (hx : r.el x) (hs : x.sz ≤ 1000000) {d : D} (hd : Bad r d) : callP pr m 35 [.sh (rgD r), .sh (vD x), .sh d] = .exc 3 d := by
  refine ent 6 d_35 h35 rfl h fun n hn => ?_
  simp -implicitDefEqProofs [d_35, sp_26 g (m := n) (by omega) hr, sp_28b g h27 h28 hn hx hs hd]
theorem sp_36a (h36 : pr.defs 36 = some d_36) (h : 7 ≤ m) (hr : r.ok) {d : D} (hd : Bad r d) (y : D) : callP pr m 36 [.sh (rgD r), .sh d, .sh y] = .exc 3 d := by
  refine ent 6 d_36 h36 rfl h fun n hn => ?_
  simp -implicitDefEqProofs [d_36, sp_26 g (m := n) (by omega) hr, sp_28a g h27 h28 hn hd y]
theorem sp_36b (h36 : pr.defs 36 = some d_36) (h : 7 ≤ m) (hr : r.ok) {x : V} (hx : r.el x) (hs : x.sz ≤ 1000000) {d : D} (hd : Bad r d) : callP pr m 36 [.sh (rgD r), .sh (vD x), .sh d] = .exc 3 d := by
  refine ent 6 d_36 h36 rfl h fun n hn => ?_
  simp -implicitDefEqProofs [d_36, sp_26 g (m := n) (by omega) hr, sp_28b g h27 h28 hn hx hs hd]
theorem sp_39a (h39 : pr.defs 39 = some d_39) (h : 7 ≤ m) (hr : r.ok) {d : D} (hd : Bad r d) (y : D) : callP pr m 39 [.sh (rgD r), .sh d, .sh y] = .exc 3 d := by
  refine ent 6 d_39 h39 rfl h fun n hn => ?_
  simp -implicitDefEqProofs [d_39, sp_26 g (m := n) (by omega) hr, sp_28a g h27 h28 hn hd y]
theorem sp_39b (h39 : pr.defs 39 = some d_39) (h : 7 ≤ m) (hr : r.ok) {x : V} (hx : r.el x) (hs : x.sz ≤ 1000000) {d : D} (hd : Bad r d) : callP pr m 39 [.sh (rgD r), .sh (vD x), .sh d] = .exc 3 d := by
  refine ent 6 d_39 h39 rfl h fun n hn => ?_
  simp -implicitDefEqProofs [d_39, sp_26 g (m := n) (by omega) hr, sp_28b g h27 h28 hn hx hs hd]
omit h28
theorem sp_37a (h37 : pr.defs 37 = some d_37) (h : 7 ≤ m) (hr : r.ok) {d : D} (hd : Bad r d) (y : D) : callP pr m 37 [.sh (rgD r), .sh d, .sh y] = .exc 3 d := by
  refine ent 6 d_37 h37 rfl h fun n hn => ?_
  simp -implicitDefEqProofs [d_37, sp_26 g (m := n) (by omega) hr, sp_27n g h27 (m := n) (by omega) hd]
theorem sp_37n (h2 : pr.defs 2 = some d_2) (h37 : pr.defs 37 = some d_37) (h : 7 ≤ m) (hr : r.ok) {x : V} (hx : r.el x) (hs : x.sz ≤ 1000000) (k : Int) (hk : k < 0 ∨ 40 < k) : callP pr m 37 [.sh (rgD r), .sh (vD x), .sh (.int k)] = .exc 2 (.int k) := by
  refine ent 6 d_37 h37 rfl h fun n hn => ?_
  simp -implicitDefEqProofs [d_37, sp_26 g (m := n) (by omega) hr, sp_27 g h27 (m := n) (by omega) hx hs, sp_2n h2 (m := n) (by omega) hk]
theorem sp_37 (h2 : pr.defs 2 = some d_2) (h5 : pr.defs 5 = some d_5) (h37 : pr.defs 37 = some d_37) (h : 7 ≤ m) (hr : r.ok) {x : V} (hx : r.el x) (hs : x.sz ≤ 10000) (k : Nat) (hk : k ≤ 40) : callP pr m 37 [.sh (rgD r), .sh (vD x), .sh (.int k)] = .ok (.sh (vD (r.pw x k))) [.no, .no, .no] := by
  refine ent 6 d_37 h37 rfl h fun n hn => ?_
  have hks : k * x.sz ≤ 40 * x.sz := Nat.mul_le_mul_right _ hk
  simp -implicitDefEqProofs [d_37, sp_26 g (m := n) (by omega) hr, sp_27 g h27 (m := n) (by omega) hx (by omega), sp_2 h2 (m := n) (k := (k : Int)) (a := 0) (b := 40) (by omega) (by omega) (by omega), sp_5 g h5 (m := n) (by omega) hr hx k (by omega) (by omega)]
include h33
theorem sp_38a (h38 : pr.defs 38 = some d_38) (h : 7 ≤ m) (hr : r.ok) {d : D} (hd : Bad r d) (y : D) : callP pr m 38 [.sh (rgD r), .sh d, .sh y] = .exc 3 d := by
  refine ent 6 d_38 h38 rfl h fun n hn => ?_
  simp -implicitDefEqProofs [d_38, sp_26 g (m := n) (by omega) hr, sp_27n g h27 (m := n) (by omega) hd]
theorem sp_38b (h38 : pr.defs 38 = some d_38) (h : 7 ≤ m) (hr : r.ok) {x : V} (hx : r.el x) (hs : x.sz ≤ 1000000) {d : D} (hd : Bad r d) : callP pr m 38 [.sh (rgD r), .sh (vD x), .sh d] = .exc 3 d := by
  refine ent 6 d_38 h38 rfl h fun n hn => ?_
  simp -implicitDefEqProofs [d_38, sp_26 g (m := n) (by omega) hr, sp_27 g h27 (m := n) (by omega) hx hs, sp_33n g h27 h33 hn hd]
theorem sp_38z (h38 : pr.defs 38 = some d_38) (h : 7 ≤ m) (hr : r.ok) {x : V} (hx : r.el x) (hs : x.sz ≤ 1000000) : callP pr m 38 [.sh (rgD r), .sh (vD x), .sh (vD r.zero)] = .exc 3 (vD r.zero) := by
  refine ent 6 d_38 h38 rfl h fun n hn => ?_
  simp -implicitDefEqProofs [d_38, sp_26 g (m := n) (by omega) hr, sp_27 g h27 (m := n) (by omega) hx hs, sp_33z g h27 h33 (m := n) (by omega)]
omit h33
variable (g2 : G2 pr)
include g2
include h33 in
theorem sp_38 (h38 : pr.defs 38 = some d_38) (h : 7 ≤ m) (hr : r.ok) {x y : V} (hx : r.el x) (hy : r.el y) (hs : x.sz ≤ 8000) (hs2 : y.sz ≤ 8000) (h0 : y ≠ r.zero) : callP pr m 38 [.sh (rgD r), .sh (vD x), .sh (vD y)] = .ok (.sh (.tup [vD (r.div x y).1, vD (r.div x y).2])) [.no, .no, .no] := by
  refine ent 6 d_38 h38 rfl h fun n hn => ?_
  simp -implicitDefEqProofs [d_38, sp_26 g (m := n) (by omega) hr, sp_27 g h27 (m := n) (by omega) hx (by omega), sp_33 g h27 h33 (m := n) (by omega) hy (by omega) h0, g2.mDiv r, vs_div g g2 (m := n) (by omega) hr hx hy h0 (by omega) hs2]
include h28
theorem sp_34 (h34 : pr.defs 34 = some d_34) (h : 7 ≤ m) (hr : r.ok) {x y : V} (hx : r.el x) (hy : r.el y) (hs : x.sz ≤ 100000) (hs2 : y.sz ≤ 100000) : callP pr m 34 [.sh (rgD r), .sh (vD x), .sh (vD y)] = .ok (.sh (vD (r.add x y))) [.no, .no, .no] := by
  refine ent 6 d_34 h34 rfl h fun n hn => ?_
  simp -implicitDefEqProofs [d_34, sp_26 g (m := n) (by omega) hr, sp_28 g h27 h28 (m := n) (by omega) hx hy (by omega) (by omega), g2.mAdd r, vs_add g g2 (m := n) (by omega) hr hx hy (by omega) (by omega)]
theorem sp_35 (h35 : pr.defs 35 = some d_35) (h : 7 ≤ m) (hr : r.ok) {x y : V} (hx : r.el x) (hy : r.el y) (hs : x.sz ≤ 100000) (hs2 : y.sz ≤ 100000) : callP pr m 35 [.sh (rgD r), .sh (vD x), .sh (vD y)] = .ok (.sh (vD (r.sub x y))) [.no, .no, .no] := by
  refine ent 6 d_35 h35 rfl h fun n hn => ?_
  simp -implicitDefEqProofs [d_35, sp_26 g (m := n) (by omega) hr, sp_28 g h27 h28 (m := n) (by omega) hx hy (by omega) (by omega), g2.mSub r, vs_sub g g2 (m := n) (by omega) hr hx hy (by omega) (by omega)]
theorem sp_36 (h36 : pr.defs 36 = some d_36) (h : 7 ≤ m) (hr : r.ok) {x y : V} (hx : r.el x) (hy : r.el y) (hs : x.sz ≤ 100000) (hs2 : y.sz ≤ 100000) : callP pr m 36 [.sh (rgD r), .sh (vD x), .sh (vD y)] = .ok (.sh (vD (r.mul x y))) [.no, .no, .no] := by
  refine ent 6 d_36 h36 rfl h fun n hn => ?_
  simp -implicitDefEqProofs [d_36, sp_26 g (m := n) (by omega) hr, sp_28 g h27 h28 (m := n) (by omega) hx hy (by omega) (by omega), g.mMul r, vs_mul g (m := n) (by omega) hr hx hy (by omega)]
theorem sp_39 (h4 : pr.defs 4 = some d_4) (h39 : pr.defs 39 = some d_39) (h : 7 ≤ m) (hr : r.ok) {x y : V} (hx : r.el x) (hy : r.el y) (hs : x.sz ≤ 8000) (hs2 : y.sz ≤ 100000) : callP pr m 39 [.sh (rgD r), .sh (vD x), .sh (vD y)] = .ok (.sh (.bl (r.dvd x y))) [.no, .no, .no] := by
  refine ent 6 d_39 h39 rfl h fun n hn => ?_
  simp -implicitDefEqProofs [d_39, sp_26 g (m := n) (by omega) hr, sp_28 g h27 h28 (m := n) (by omega) hx hy (by omega) (by omega), sp_4 g g2 h4 (m := n) (by omega) hr hx hy hs (by omega)]
end
end Lw
/-! Rings: small facts for laws. -/
namespace Lw
open PySem Dp
theorem sz_div {r : Rg} (hr : r.ok) {x y : V} (hx : r.el x) (hy : r.el y) (h0 : y ≠ r.zero) : (r.div x y).1.sz ≤ max x.sz y.sz + 1 ∧ (r.div x y).2.sz ≤ max x.sz y.sz := by
  have hd := div_is hr hx hy h0
  cases r with
  | wh =>
    obtain ⟨a, rfl⟩ := el_wh hx
    obtain ⟨b, rfl⟩ := el_wh hy
    have hb : b ≠ 0 := fun e => h0 (by rw [e]; rfl)
    simp only [Rg.add, Rg.mul, Rg.div, Rg.rst, V.i, V.n.injEq] at hd
    simp only [Rg.div, V.sz, V.i]
    generalize (a - a % (b.natAbs : Int)).fdiv b = q at hd ⊢
    generalize a % (b.natAbs : Int) = t at hd ⊢
    have h3 : bits t ≤ max (bits a) (bits b) := bits_to (j := b) (by omega) (Nat.le_max_right _ _)
    refine ⟨?_, h3⟩
    have h4 : bits (a - t) ≤ max (bits a) (bits b) + 1 := bits_sub (Nat.le_max_left _ _) h3
    refine bits_to (j := a - t) ?_ h4
    have h5 : a - t = q * b := by omega
    rw [h5, Int.natAbs_mul]
    exact Nat.le_mul_of_pos_right _ (by omega)
  | py p =>
    obtain ⟨a, rfl, ha⟩ := el_by hx
    obtain ⟨b, rfl, hb⟩ := el_by hy
    have hl := divL_len p (inv p (Rw.co b (b.length - 1))) a b
    simp only [Rg.div, V.sz, V.l]
    have h1 := Rw.cut_len p (Rw.divL p (inv p (Rw.co b (b.length - 1))) a b).1
    have h2 := Rw.cut_len p (Rw.divL p (inv p (Rw.co b (b.length - 1))) a b).2
    omega
theorem ofInt_zero (r : Rg) : r.ofInt 0 = r.zero := by
  cases r with
  | wh => rfl
  | py p => simp [Rg.ofInt, Rg.zero, Rw.cut, Rw.trim]
theorem sub_neg {r : Rg} (hr : r.ok) (x y : V) : r.sub x y = r.add x (r.neg y) := by
  cases r with
  | wh => simp only [Rg.sub, Rg.add, Rg.neg, V.i]; congr 1
  | py p =>
    simp only [Rg.sub, Rg.add, Rg.neg, V.l]
    rw [Rw.cut_add (Rg.pos hr)]
theorem rst_zero {r : Rg} {y : V} (hy : r.el y) (h0 : y ≠ r.zero) : r.rst r.zero y := by
  cases r with
  | wh =>
    obtain ⟨b, rfl⟩ := el_wh hy
    have hb : b ≠ 0 := fun e => h0 (by rw [e]; rfl)
    simp only [Rg.rst, Rg.zero, V.i]; omega
  | py p =>
    obtain ⟨b, rfl, _⟩ := el_by hy
    have hb0 : b ≠ [] := fun e => h0 (by rw [e]; rfl)
    exact List.length_pos_iff.mpr hb0
theorem div_zero {r : Rg} {y : V} (hy : r.el y) (h0 : y ≠ r.zero) : (r.div r.zero y).2 = r.zero := by
  cases r with
  | wh => simp [Rg.div, Rg.zero, V.i]
  | py p =>
    obtain ⟨b, rfl, _⟩ := el_by hy
    have hb0 : b ≠ [] := fun e => h0 (by rw [e]; rfl)
    have hl := List.length_pos_iff.mpr hb0
    have h2 := (divL_len p (inv p (Rw.co b (b.length - 1))) [] b).2
    simp only [Rg.div, Rg.zero, V.l]
    rw [List.eq_nil_of_length_eq_zero h2]; rfl
theorem dvd_zero (r : Rg) {x : V} (hx : r.el x) : r.dvd x r.zero = true := by
  unfold Rg.dvd
  by_cases h : x = r.zero
  · simp [h]
  · simp [h, div_zero hx h]
theorem zero_dvd (r : Rg) (x : V) : r.dvd r.zero x = decide (x = r.zero) := by simp [Rg.dvd]
/-- what divides a multiple and a rest -/
theorem dvd_rst {r : Rg} (hr : r.ok) {x y z : V} (hx : r.el x) (hy : r.el y) (hz : r.el z) (h0 : y ≠ r.zero) (h : r.rst z y) : r.dvd y (r.add (r.mul x y) z) = decide (z = r.zero) := by
  unfold Rg.dvd
  rw [if_neg h0, div_rst hr hx hy hz h0 h]
theorem sh_V {r : Rg} (hr : r.ok) {x : V} (hx : r.el x) {N : Nat} (hs : x.sz ≤ N) (hN : N ≤ 1900) : Sh 1 (4 * N) (vD x) := by
  cases r with
  | wh =>
    obtain ⟨i, rfl⟩ := el_wh hx
    exact (sh_int (w := N) hs (by omega)).mono (by decide) (by omega)
  | py p =>
    obtain ⟨l, rfl, hl⟩ := el_by hx
    have hp : p = 2 ∨ p = 3 ∨ p = 5 := hr
    have := shL_i (xs := l) (w := 3) (fun x hx => by
      have := hl.lo x hx
      exact bits_lt (by omega)) (by decide)
    have hs' : l.length ≤ N := hs
    exact (sh_tup this).mono (by decide) (by omega)
theorem pl_V (x : V) : Pl 1 (vD x) := by
  cases x with
  | n i => exact pl_int 1 i
  | f l => exact pl_ti 0 l
theorem Sh.q {n w : Nat} {d : D} (h : Sh n w d) : eqD (.str (txt d)) (.str (txt d)) = some true := by
  rw [eqD_txt h h]; simp
end Lw
/-! k01: what is refused. -/
namespace Lw
open PySem Dp
theorem g1 : G1 pr := by constructor <;> rfl
theorem g2 : G2 pr := by constructor <;> rfl
theorem g3 : G3 pr := by constructor <;> rfl
/-- the chain of calls -/
def chS : S := .ite (.cmp .eq (.slot 0) (.cst (.int 0))) [.expr (.call 34 [.sh (.slot 1), .sh (.slot 2), .sh (.slot 3)])] [.ite (.cmp .eq (.slot 0) (.cst (.int 1))) [.expr (.callK 35 [2, 1, 0] [] [.sh (.slot 3), .sh (.slot 2), .sh (.slot 1)])] [.ite (.cmp .eq (.slot 0) (.cst (.int 2))) [.expr (.call 36 [.sh (.slot 1), .sh (.slot 2), .sh (.slot 3)])] [.ite (.cmp .eq (.slot 0) (.cst (.int 3))) [.expr (.call 38 [.sh (.slot 1), .sh (.slot 2), .sh (.slot 3)])] [.ite (.cmp .eq (.slot 0) (.cst (.int 4))) [.expr (.callK 39 [0, 2, 1] [] [.sh (.slot 1), .sh (.slot 3), .sh (.slot 2)])] [.ite (.cmp .eq (.slot 0) (.cst (.int 5))) [.expr (.call 37 [.sh (.slot 1), .sh (.slot 2), .sh (.slot 3)])] [.ite (.cmp .eq (.slot 0) (.cst (.int 6))) [.expr (.call 29 [.sh (.slot 1), .sh (.slot 2)])] [.ite (.cmp .eq (.slot 0) (.cst (.int 7))) [.expr (.call 30 [.sh (.slot 1)])] [.ite (.cmp .eq (.slot 0) (.cst (.int 8))) [.expr (.callK 31 [0] [] [.sh (.slot 1)])] [.expr (.call 32 [.sh (.slot 1), .sh (.cst (.int 1))])]]]]]]]]]
def kd (e : Nat) : List D := if e = 1 then [.int 0] else if e = 3 then [.int 1] else [.int 2]
theorem sub_11 : pr.sub 1 1 = some true := rfl
theorem sub_12 : pr.sub 1 2 = some false := rfl
theorem sub_13 : pr.sub 1 3 = some false := rfl
theorem sub_10 : pr.sub 1 0 = some true := rfl
theorem sub_21 : pr.sub 2 1 = some false := rfl
theorem sub_22 : pr.sub 2 2 = some true := rfl
theorem sub_23 : pr.sub 2 3 = some false := rfl
theorem sub_20 : pr.sub 2 0 = some true := rfl
theorem sub_31 : pr.sub 3 1 = some false := rfl
theorem sub_32 : pr.sub 3 2 = some false := rfl
theorem sub_33 : pr.sub 3 3 = some true := rfl
theorem sub_30 : pr.sub 3 0 = some true := rfl
theorem eok_1 : pr.eok 1 = true := rfl
theorem eok_2 : pr.eok 2 = true := rfl
theorem eok_3 : pr.eok 3 = true := rfl
theorem sp_52 {m n : Nat} (hm : m = n + 1) {w : Int} {a b c d : D} {e : Nat} (he : e = 1 ∨ e = 2 ∨ e = 3) (hd : Sh 10 1000 d)
    (hx : ex (pr.wd (callP pr n)) chS [.sh (.int w), .sh a, .sh b, .sh c, .sh .non, .no, .no, .no] = .exc e d [.sh (.int w), .sh a, .sh b, .sh c, .sh .non, .no, .no, .no]) :
    callP pr m 52 [.sh (.int w), .sh a, .sh b, .sh c] = .ok (.sh (.tup [.lst (kd e), .str (txt d)])) [.no, .no, .no, .no] := by
  subst hm
  refine (callP_at d_52 rfl rfl).trans ?_
  have sd := shown_sh hd (by decide) (by decide)
  have r3 := rng_1 (z := 3) (n := 3) rfl (by decide)
  have hx' : exs (pr.wd (callP pr n)) [chS] [.sh (.int w), .sh a, .sh b, .sh c, .sh .non, .no, .no, .no] = .exc e d [.sh (.int w), .sh a, .sh b, .sh c, .sh .non, .no, .no, .no] := by rw [exs_2, hx]; rfl
  simp only [d_52, Nat.reduceSub, List.replicate, List.cons_append, List.nil_append]
  refine run1 [.sh (.int w), .sh a, .sh b, .sh c, .sh .non, .no, .no, .no] (by simp -implicitDefEqProofs) ?_
  refine run1 [.sh (.int w), .sh a, .sh b, .sh c, .sh (.exc e d), .no, .no, .no] ?_ ?_
  · rw [x_try]
    rw [show ([S.ite (.cmp .eq (.slot 0) (.cst (.int 0))) [.expr (.call 34 [.sh (.slot 1), .sh (.slot 2), .sh (.slot 3)])] [.ite (.cmp .eq (.slot 0) (.cst (.int 1))) [.expr (.callK 35 [2, 1, 0] [] [.sh (.slot 3), .sh (.slot 2), .sh (.slot 1)])] [.ite (.cmp .eq (.slot 0) (.cst (.int 2))) [.expr (.call 36 [.sh (.slot 1), .sh (.slot 2), .sh (.slot 3)])] [.ite (.cmp .eq (.slot 0) (.cst (.int 3))) [.expr (.call 38 [.sh (.slot 1), .sh (.slot 2), .sh (.slot 3)])] [.ite (.cmp .eq (.slot 0) (.cst (.int 4))) [.expr (.callK 39 [0, 2, 1] [] [.sh (.slot 1), .sh (.slot 3), .sh (.slot 2)])] [.ite (.cmp .eq (.slot 0) (.cst (.int 5))) [.expr (.call 37 [.sh (.slot 1), .sh (.slot 2), .sh (.slot 3)])] [.ite (.cmp .eq (.slot 0) (.cst (.int 6))) [.expr (.call 29 [.sh (.slot 1), .sh (.slot 2)])] [.ite (.cmp .eq (.slot 0) (.cst (.int 7))) [.expr (.call 30 [.sh (.slot 1)])] [.ite (.cmp .eq (.slot 0) (.cst (.int 8))) [.expr (.callK 31 [0] [] [.sh (.slot 1)])] [.expr (.call 32 [.sh (.slot 1), .sh (.cst (.int 1))])]]]]]]]]]]) = [chS] from rfl, hx']
    rcases he with rfl | rfl | rfl <;> simp -implicitDefEqProofs [sub_10, sub_20, sub_30]
  · rcases he with rfl | rfl | rfl
    · simp -implicitDefEqProofs [sub_11, sub_12, sub_13, r3]
      rw [show nD (List.range 3) = (List.range 3).map fun k : Nat => D.int (k : Int) from rfl, cmp_filter (fun k : Nat => D.int (k : Int)) (List.range 3) (fun k => decide (k = 0)) (fun k => .int (k : Int)) (by simp) (by decide) (by
        intro k hk
        have : k = 0 ∨ k = 1 ∨ k = 2 := by have := List.mem_range.1 hk; omega
        rcases this with rfl | rfl | rfl <;> simp -implicitDefEqProofs)]
      simp -implicitDefEqProofs [sd, eok_1, kd, List.range, List.range.loop]
    · simp -implicitDefEqProofs [sub_21, sub_22, sub_23, r3]
      rw [show nD (List.range 3) = (List.range 3).map fun k : Nat => D.int (k : Int) from rfl, cmp_filter (fun k : Nat => D.int (k : Int)) (List.range 3) (fun k => decide (k = 2)) (fun k => .int (k : Int)) (by simp) (by decide) (by
        intro k hk
        have : k = 0 ∨ k = 1 ∨ k = 2 := by have := List.mem_range.1 hk; omega
        rcases this with rfl | rfl | rfl <;> simp -implicitDefEqProofs)]
      simp -implicitDefEqProofs [sd, eok_2, kd, List.range, List.range.loop]
    · simp -implicitDefEqProofs [sub_31, sub_32, sub_33, r3]
      rw [show nD (List.range 3) = (List.range 3).map fun k : Nat => D.int (k : Int) from rfl, cmp_filter (fun k : Nat => D.int (k : Int)) (List.range 3) (fun k => decide (k = 1)) (fun k => .int (k : Int)) (by simp) (by decide) (by
        intro k hk
        have : k = 0 ∨ k = 1 ∨ k = 2 := by have := List.mem_range.1 hk; omega
        rcases this with rfl | rfl | rfl <;> simp -implicitDefEqProofs)]
      simp -implicitDefEqProofs [sd, eok_3, kd, List.range, List.range.loop]
end Lw
/-! k01: what is refused, all of it. -/
namespace Lw
open PySem Dp
theorem eqD_self {d : D} (h : Pl 60 d) : eqD d d = some true := by rw [eqD_pl h h, eqB_pl h]
theorem ix_mem {l : List D} {v : Int} (h0 : 0 ≤ v) (h1 : v < l.length) : ∃ d, d ∈ l ∧ ixD (.lst l) (.int v) = some d := by
  obtain ⟨k, rfl⟩ : ∃ k : Nat, v = k := ⟨v.toNat, by omega⟩
  have hk : k < l.length := by omega
  exact ⟨l[k], List.getElem_mem hk, by rw [ix_nat, List.getElem?_eq_getElem hk]⟩
theorem sh_1 (s : String) (h : PyData.strOk (PyData.shown (.str (Str.ofString s))) = true) (h2 : (Str.ofString s).length ≤ 20) : Sh 0 20 (.str (Str.ofString s)) := sh_s s h h2
theorem sh_by : Sh 0 20 (.str (Str.ofString "by")) := sh_1 _ (by decide +kernel) (by decide +kernel)
theorem sh_whole : Sh 0 20 (.str (Str.ofString "whole")) := sh_1 _ (by decide +kernel) (by decide +kernel)
theorem sh_one : Sh 0 20 (.str (Str.ofString "1")) := sh_1 _ (by decide +kernel) (by decide +kernel)
theorem sh_i (i : Int) (h : i.natAbs < 100) : Sh 0 20 (.int i) := sh_int (bits_lt (Nat.lt_of_lt_of_le h (show 100 ≤ 2 ^ 20 by decide))) (by decide)
theorem sh_none (d : D) (h : NoRg d) : Sh 3 1000 d := by
  rcases h with rfl | rfl | rfl | rfl | rfl | rfl | rfl | rfl
  · exact sh_non.mono (by decide) (by decide)
  · exact (sh_tup (shL_cons sh_by (shL_cons (sh_i 7 (by decide)) shL_nil))).mono (by decide) (by decide)
  · exact (sh_lst (shL_cons sh_whole shL_nil)).mono (by decide) (by decide)
  · exact (sh_tup (shL_cons sh_by shL_nil)).mono (by decide) (by decide)
  · exact (sh_tup (shL_cons sh_by (shL_cons (sh_bl true) shL_nil))).mono (by decide) (by decide)
  · exact sh_whole.mono (by decide) (by decide)
  · exact (sh_tup (shL_cons sh_by (shL_cons (sh_i 4 (by decide)) shL_nil))).mono (by decide) (by decide)
  · exact (sh_tup (shL_cons sh_whole (shL_cons (sh_i 2 (by decide)) shL_nil))).mono (by decide) (by decide)
def bads : Rg → List D
  | .wh => [.non, .bl true, .str "1", .tup [.int 1, .int 0], .lst [.int 1], .tup [.bl true], .tup [.int 0], .tup [.tup [.int 1]]]
  | .py p => [.non, .int 3, .tup [.int 1, .int 0], .tup [.int p], .tup [.int (-1)], .lst [.int 1], .tup [.bl true], .tup [.int 0]]
theorem bad_sh {r : Rg} (hr : r.ok) {d : D} (h : d ∈ bads r) : Sh 3 1000 d := by
  cases r with
  | wh =>
    simp only [bads, List.mem_cons, List.not_mem_nil, or_false] at h
    rcases h with rfl | rfl | rfl | rfl | rfl | rfl | rfl | rfl
    · exact sh_non.mono (by decide) (by decide)
    · exact (sh_bl true).mono (by decide) (by decide)
    · exact sh_one.mono (by decide) (by decide)
    · exact (sh_tup (shL_cons (sh_i 1 (by decide)) (shL_cons (sh_i 0 (by decide)) shL_nil))).mono (by decide) (by decide)
    · exact (sh_lst (shL_cons (sh_i 1 (by decide)) shL_nil)).mono (by decide) (by decide)
    · exact (sh_tup (shL_cons (sh_bl true) shL_nil)).mono (by decide) (by decide)
    · exact (sh_tup (shL_cons (sh_i 0 (by decide)) shL_nil)).mono (by decide) (by decide)
    · exact (sh_tup (shL_cons (sh_tup (shL_cons (sh_i 1 (by decide)) shL_nil)) shL_nil)).mono (by decide) (by decide)
  | py p =>
    have hp : p = 2 ∨ p = 3 ∨ p = 5 := hr
    simp only [bads, List.mem_cons, List.not_mem_nil, or_false] at h
    rcases h with rfl | rfl | rfl | rfl | rfl | rfl | rfl | rfl
    · exact sh_non.mono (by decide) (by decide)
    · exact (sh_i 3 (by decide)).mono (by decide) (by decide)
    · exact (sh_tup (shL_cons (sh_i 1 (by decide)) (shL_cons (sh_i 0 (by decide)) shL_nil))).mono (by decide) (by decide)
    · exact (sh_tup (shL_cons (sh_i p (by omega)) shL_nil)).mono (by decide) (by decide)
    · exact (sh_tup (shL_cons (sh_i (-1) (by decide)) shL_nil)).mono (by decide) (by decide)
    · exact (sh_lst (shL_cons (sh_i 1 (by decide)) shL_nil)).mono (by decide) (by decide)
    · exact (sh_tup (shL_cons (sh_bl true) shL_nil)).mono (by decide) (by decide)
    · exact (sh_tup (shL_cons (sh_i 0 (by decide)) shL_nil)).mono (by decide) (by decide)
theorem bad_of {r : Rg} (hr : r.ok) {d : D} (h : d ∈ bads r) : Bad r d := by
  have hs := bad_sh hr h
  refine ⟨?_, ?_, .of hs⟩
  · cases r <;> simp only [bads, List.mem_cons, List.not_mem_nil, or_false] at h <;> rcases h with rfl | rfl | rfl | rfl | rfl | rfl | rfl | rfl <;> rfl
  · cases r with
    | wh => simp only [bads, List.mem_cons, List.not_mem_nil, or_false] at h; rcases h with rfl | rfl | rfl | rfl | rfl | rfl | rfl | rfl <;> rfl
    | py p =>
      have hp : p = 2 ∨ p = 3 ∨ p = 5 := hr
      have hp0 : (0 < p) := by omega
      simp only [bads, List.mem_cons, List.not_mem_nil, or_false] at h
      rcases h with rfl | rfl | rfl | rfl | rfl | rfl | rfl | rfl <;> simp [Rg.hasB, hasB, okI] <;> omega
theorem ca_ring {n : Nat} (hn : 7 ≤ n) {d : D} (hd : NoRg d) (k : Nat) (hk : k < 10) :
    callP pr (n + 1) 52 [.sh (.int k), .sh d, .sh .non, .sh (.int (-1))] = .ok (.sh (.tup [.lst (kd 1), .str (txt d)])) [.no, .no, .no, .no] := by
  have sd := sh_none d hd
  have wd := Wt.of sd
  refine sp_52 rfl (.inl rfl) (sd.mono (by decide) (by decide)) ?_
  have hk' : k = 0 ∨ k = 1 ∨ k = 2 ∨ k = 3 ∨ k = 4 ∨ k = 5 ∨ k = 6 ∨ k = 7 ∨ k = 8 ∨ k = 9 := by omega
  rcases hk' with rfl | rfl | rfl | rfl | rfl | rfl | rfl | rfl | rfl | rfl
  · simp -implicitDefEqProofs [chS, sp_34r g1 (m := n) rfl hn hd wd]
  · simp -implicitDefEqProofs [chS, sp_35r g1 (m := n) rfl hn hd wd]
  · simp -implicitDefEqProofs [chS, sp_36r g1 (m := n) rfl hn hd wd]
  · simp -implicitDefEqProofs [chS, sp_38r g1 (m := n) rfl hn hd wd]
  · simp -implicitDefEqProofs [chS, sp_39r g1 (m := n) rfl hn hd wd]
  · simp -implicitDefEqProofs [chS, sp_37r g1 (m := n) rfl hn hd wd]
  · simp -implicitDefEqProofs [chS, sp_29r g1 (m := n) rfl hn hd wd]
  · simp -implicitDefEqProofs [chS, sp_30r g1 (m := n) rfl hn hd wd]
  · simp -implicitDefEqProofs [chS, sp_31r g1 (m := n) rfl hn hd wd]
  · simp -implicitDefEqProofs [chS, sp_32r g1 (m := n) rfl hn hd wd]
theorem ca_one {n : Nat} (hn : 7 ≤ n) {r : Rg} (hr : r.ok) {d : D} (hd : d ∈ bads r) (k : Nat) (hk : k < 6) :
    callP pr (n + 1) 52 [.sh (.int k), .sh (rgD r), .sh d, .sh (.int (-1))] = .ok (.sh (.tup [.lst (kd 3), .str (txt d)])) [.no, .no, .no, .no] := by
  have sd := bad_sh hr hd
  have bd := bad_of hr hd
  refine sp_52 rfl (.inr (.inr rfl)) (sd.mono (by decide) (by decide)) ?_
  have hk' : k = 0 ∨ k = 1 ∨ k = 2 ∨ k = 3 ∨ k = 4 ∨ k = 5 := by omega
  rcases hk' with rfl | rfl | rfl | rfl | rfl | rfl
  · simp -implicitDefEqProofs [chS, sp_34a g1 (m := n) rfl rfl rfl hn hr bd]
  · simp -implicitDefEqProofs [chS, sp_35a g1 (m := n) rfl rfl rfl hn hr bd]
  · simp -implicitDefEqProofs [chS, sp_36a g1 (m := n) rfl rfl rfl hn hr bd]
  · simp -implicitDefEqProofs [chS, sp_38a g1 (m := n) rfl rfl rfl hn hr bd]
  · simp -implicitDefEqProofs [chS, sp_39a g1 (m := n) rfl rfl rfl hn hr bd]
  · simp -implicitDefEqProofs [chS, sp_37a g1 (m := n) rfl rfl hn hr bd]
theorem ca_two {n : Nat} (hn : 7 ≤ n) {r : Rg} (hr : r.ok) {x : V} (hx : r.el x) (hs : x.sz ≤ 1000000) {d : D} (hd : d ∈ bads r) (k : Nat) (hk : k < 5) :
    callP pr (n + 1) 52 [.sh (.int k), .sh (rgD r), .sh (vD x), .sh d] = .ok (.sh (.tup [.lst (kd 3), .str (txt d)])) [.no, .no, .no, .no] := by
  have sd := bad_sh hr hd
  have bd := bad_of hr hd
  refine sp_52 rfl (.inr (.inr rfl)) (sd.mono (by decide) (by decide)) ?_
  have hk' : k = 0 ∨ k = 1 ∨ k = 2 ∨ k = 3 ∨ k = 4 := by omega
  rcases hk' with rfl | rfl | rfl | rfl | rfl
  · simp -implicitDefEqProofs [chS, sp_34b g1 (m := n) rfl rfl rfl hn hr hx hs bd]
  · simp -implicitDefEqProofs [chS, sp_35b g1 (m := n) rfl rfl rfl hn hr hx hs bd]
  · simp -implicitDefEqProofs [chS, sp_36b g1 (m := n) rfl rfl rfl hn hr hx hs bd]
  · simp -implicitDefEqProofs [chS, sp_38b g1 (m := n) rfl rfl rfl hn hr hx hs bd]
  · simp -implicitDefEqProofs [chS, sp_39b g1 (m := n) rfl rfl rfl hn hr hx hs bd]
theorem sh_zero (r : Rg) : Sh 3 1000 (vD r.zero) := by
  cases r with
  | wh => exact (sh_i 0 (by decide)).mono (by decide) (by decide)
  | py p => exact (sh_tup shL_nil).mono (by decide) (by decide)
theorem ca_zero {n : Nat} (hn : 7 ≤ n) {r : Rg} (hr : r.ok) {x : V} (hx : r.el x) (hs : x.sz ≤ 1000000) :
    callP pr (n + 1) 52 [.sh (.int 3), .sh (rgD r), .sh (vD x), .sh (vD r.zero)] = .ok (.sh (.tup [.lst (kd 3), .str (txt (vD r.zero))])) [.no, .no, .no, .no] := by
  refine sp_52 rfl (.inr (.inr rfl)) ((sh_zero r).mono (by decide) (by decide)) ?_
  simp -implicitDefEqProofs [chS, sp_38z g1 (m := n) rfl rfl rfl hn hr hx hs]
theorem ca_num {n : Nat} (hn : 7 ≤ n) {r : Rg} (hr : r.ok) {x : V} (hx : r.el x) (hs : x.sz ≤ 1000000) (k : Int) (hk : k < 0 ∨ 40 < k) (hk2 : k.natAbs < 100) :
    callP pr (n + 1) 52 [.sh (.int 5), .sh (rgD r), .sh (vD x), .sh (.int k)] = .ok (.sh (.tup [.lst (kd 2), .str (txt (.int k))])) [.no, .no, .no, .no] := by
  refine sp_52 rfl (.inr (.inl rfl)) ((sh_i k hk2).mono (by decide) (by decide)) ?_
  simp -implicitDefEqProofs [chS, sp_37n g1 (m := n) rfl rfl rfl hn hr hx hs k hk]
end Lw
/-! k01: _law_refused. -/
namespace Lw
open PySem Dp
theorem txt_n1 : txt (.int (-1)) = Str.ofString "-1" := by decide +kernel
theorem txt_41 : txt (.int 41) = Str.ofString "41" := by decide +kernel
theorem pl_ct {d : D} {n w : Nat} (h : Sh n w d) (e : Nat) : Pl 5 (.tup [.lst (kd e), .str (txt d)]) := by
  have : PlL 0 (kd e) := by
    unfold kd
    split
    · exact plL_i 0 [0]
    · split
      · exact plL_i 0 [1]
      · exact plL_i 0 [2]
  exact (pl_tup (n := 1) (plL_cons (pl_lst this) (plL_cons (pl_str 1 (txt_ok h)) (plL_nil 1)))).mono (by decide)
theorem rep_map (X : D) (k : Nat) : (List.range k).map (fun _ => X) = List.replicate k X := by
  rw [List.map_const', List.length_range]
theorem pl_rep {X : D} (h : Pl 5 X) (k : Nat) : Pl 60 (.lst (List.replicate k X)) :=
  (pl_lst (plL_all fun d hd => by rw [List.eq_of_mem_replicate hd]; exact h)).mono (by decide)
theorem bad_len (r : Rg) : (bads r).length = 8 := by cases r <;> rfl
theorem sp_53 {m n : Nat} (h : 9 ≤ m) {s : D} (hs : Spr (n + 2) s) {r : Rg} (hr : r.ok) {x : V} (hx : r.el x) (hz : x.sz ≤ 1000) :
    ∃ s', callP pr m 53 [.io s, .sh (rgD r), .sh (vD x)] = .ok (.sh (.bl true)) [.io s', .no, .no] ∧ Spr n s' := by
  obtain ⟨m', rfl⟩ : ∃ k, m = k + 1 + 1 := ⟨m - 2, by omega⟩
  have hm : 7 ≤ m' := by omega
  obtain ⟨v1, s1, e1, h1, v10, v11⟩ := sp_41 (pr := pr) (m := m' + 1) rfl (by omega) hs 8 (by decide) (bits_le (bits_lt (n := 10) (by decide)) (by decide))
  obtain ⟨v2, s2, e2, h2, v20, v21⟩ := sp_41 (pr := pr) (m := m' + 1) rfl (by omega) h1 8 (by decide) (bits_le (bits_lt (n := 10) (by decide)) (by decide))
  have i1 : ∃ d, NoRg d ∧ ixD (.lst [.non, .tup [.str "by", .int 7], .lst [.str "whole"], .tup [.str "by"], .tup [.str "by", .bl true], .str "whole", .tup [.str "by", .int 4], .tup [.str "whole", .int 2]]) (.int v1) = some d := by
    obtain ⟨d, hd, e⟩ := ix_mem (l := [.non, .tup [.str "by", .int 7], .lst [.str "whole"], .tup [.str "by"], .tup [.str "by", .bl true], .str "whole", .tup [.str "by", .int 4], .tup [.str "whole", .int 2]]) v10 (by simpa using v11)
    refine ⟨d, ?_, e⟩
    unfold NoRg
    simpa only [List.mem_cons, List.not_mem_nil, or_false] using hd
  obtain ⟨d1, hd1, i1⟩ := i1
  obtain ⟨d2, hd2, i2⟩ := ix_mem (l := bads r) v20 (by rw [bad_len]; exact v21)
  refine ⟨s2, ?_, h2⟩
  refine (callP_at d_53 rfl rfl).trans ?_
  have sd1 := sh_none d1 hd1
  have sd2 := bad_sh hr hd2
  have t1 := shown_sh sd1 (by decide) (by decide)
  have t2 := shown_sh sd2 (by decide) (by decide)
  have tz := shown_sh (sh_zero r) (by decide) (by decide)
  have q1 := eqD_self (pl_rep (pl_ct sd1 1) 10)
  have q2 := eqD_self (pl_rep (pl_ct sd2 3) 6)
  have q3 := eqD_self (pl_rep (pl_ct sd2 3) 5)
  have k1 : kd 1 = [.int 0] := rfl
  have k3 : kd 3 = [.int 1] := rfl
  have k2 : kd 2 = [.int 2] := rfl
  rw [k1] at q1
  rw [k3] at q2 q3
  have r10 := rng_1 (z := 10) (n := 10) rfl (by decide)
  have r6 := rng_1 (z := 6) (n := 6) rfl (by decide)
  have r5 := rng_1 (z := 5) (n := 5) rfl (by decide)
  have l10 := mul_l (.tup [.lst [.int 0], .str (txt d1)]) (k := 10) (by decide)
  have l6 := mul_l (.tup [.lst [.int 1], .str (txt d2)]) (k := 6) (by decide)
  have l5 := mul_l (.tup [.lst [.int 1], .str (txt d2)]) (k := 5) (by decide)
  have n24 := sp_24n g1 (m := m' + 1) rfl (by omega) hd1
  have y24 := sp_24 g1 (m := m' + 1) (r := r) rfl (by omega) hr
  have n29 := sp_29 g1 (m := m' + 1) (r := r) rfl (by omega) hr d2 (bad_of hr hd2).dt
  rw [(bad_of hr hd2).no] at n29
  have y29 := sp_29 g1 (m := m' + 1) (r := r) rfl (by omega) hr (vD x) (datL_V (by omega))
  rw [hasB_V hx] at y29
  have z47 := sp_47 (pr := pr) (m := m' + 1) rfl (by omega) r
  have cz := ca_zero (n := m') hm hr hx (by omega)
  have cn := ca_num (n := m') hm hr hx (by omega) (-1) (by decide) (by decide)
  have c41 := ca_num (n := m') hm hr hx (by omega) 41 (by decide) (by decide)
  simp only [d_53, Nat.reduceSub, List.replicate, List.cons_append, List.nil_append]
  refine run1 [.io s1, .sh (rgD r), .sh (vD x), .sh d1, .no, .no, .no, .no] (by simp -implicitDefEqProofs [e1, i1]) ?_
  refine run1 [.io s1, .sh (rgD r), .sh (vD x), .sh d1, .no, .no, .no, .no] (by
    simp -implicitDefEqProofs [r10]
    rw [cmpN_to (fun _ => .tup [.lst [.int 0], .str (txt d1)]) (by simp) (by decide) (fun a ha => by
      have := ca_ring (n := m') hm hd1 a (List.mem_range.1 ha)
      rw [k1] at this
      simp -implicitDefEqProofs [this])]
    have l10' : bop .mul (.lst [.tup [.lst [.int 0], .str (txt d1)]]) (.int 10) = _ := l10
    simp -implicitDefEqProofs [-List.reduceReplicate, t1, l10', rep_map, q1, n24, y24, isD]) ?_
  refine run1 [.io s1, .sh (rgD r), .sh (vD x), .sh d1, .ow (.lst (bads r)), .no, .no, .no] (by
    cases r <;> simp -implicitDefEqProofs [rgD, bads]) ?_
  refine run1 [.io s2, .sh (rgD r), .sh (vD x), .sh d1, .ow (.lst (bads r)), .sh d2, .no, .no] (by simp -implicitDefEqProofs [e2, i2]) ?_
  refine run1 [.io s2, .sh (rgD r), .sh (vD x), .sh d1, .ow (.lst (bads r)), .sh d2, .no, .no] (by
    simp -implicitDefEqProofs [r6]
    rw [cmpN_to (fun _ => .tup [.lst [.int 1], .str (txt d2)]) (by simp) (by decide) (fun a ha => by
      have := ca_one (n := m') hm hr hd2 a (List.mem_range.1 ha)
      rw [k3] at this
      simp -implicitDefEqProofs [this])]
    have l6' : bop .mul (.lst [.tup [.lst [.int 1], .str (txt d2)]]) (.int 6) = _ := l6
    simp -implicitDefEqProofs [-List.reduceReplicate, t2, l6', rep_map, q2]) ?_
  refine run1 [.io s2, .sh (rgD r), .sh (vD x), .sh d1, .ow (.lst (bads r)), .sh d2, .no, .no] (by
    simp -implicitDefEqProofs [r5]
    rw [cmpN_to (fun _ => .tup [.lst [.int 1], .str (txt d2)]) (by simp) (by decide) (fun a ha => by
      have := ca_two (n := m') hm hr hx (by omega) hd2 a (List.mem_range.1 ha)
      rw [k3] at this
      simp -implicitDefEqProofs [this])]
    have l5' : bop .mul (.lst [.tup [.lst [.int 1], .str (txt d2)]]) (.int 5) = _ := l5
    simp -implicitDefEqProofs [-List.reduceReplicate, t2, l5', rep_map, q3, n29, isD]) ?_
  refine run1 [.io s2, .sh (rgD r), .sh (vD x), .sh d1, .ow (.lst (bads r)), .sh d2, .ow (.lst [.tup [.lst (kd 3), .str (txt (vD r.zero))], .tup [.lst (kd 2), .str (txt (.int (-1)))], .tup [.lst (kd 2), .str (txt (.int 41))]]), .no] (by
    simp -implicitDefEqProofs [z47, cz, cn, c41]) ?_
  have q4 : eqD (.lst [.tup [.lst (kd 3), .str (txt (vD r.zero))], .tup [.lst (kd 2), .str (txt (.int (-1)))], .tup [.lst (kd 2), .str (txt (.int 41))]]) (.lst [.tup [.lst (kd 3), .str (txt (vD r.zero))], .tup [.lst (kd 2), .str (txt (.int (-1)))], .tup [.lst (kd 2), .str (txt (.int 41))]]) = some true :=
    eqD_self ((pl_lst (plL_cons (pl_ct (sh_zero r) 3) (plL_cons (pl_ct (sh_i (-1) (by decide)) 2) (plL_cons (pl_ct (sh_i 41 (by decide)) 2) (plL_nil 5))))).mono (by decide))
  rw [txt_n1, txt_41, k3, k2] at q4 ⊢
  simp -implicitDefEqProofs [z47, tz, q4, y29, isD]
end Lw
/-! k01: _law_right. -/
namespace Lw
open PySem Dp
theorem wm {v : Int} (h0 : 0 ≤ v) (h1 : v < 3) : ∃ w u : Int, ixD (.lst [.tup [.int 6, .int 2], .tup [.int 1000, .int 4], .tup [.int 100000000000000000000000000000, .int 9]]) (.int v) = some (.tup [.int w, .int u]) ∧ 0 ≤ w ∧ bits w ≤ 97 ∧ 0 ≤ u ∧ u ≤ 9 := by
  have hv : v = 0 ∨ v = 1 ∨ v = 2 := by omega
  rcases hv with rfl | rfl | rfl
  · exact ⟨6, 2, by simp, by decide, bits_lt (by decide), by decide, by decide⟩
  · exact ⟨1000, 4, by simp, by decide, bits_lt (by decide), by decide, by decide⟩
  · exact ⟨100000000000000000000000000000, 9, by simp, by decide, bits_lt (by decide), by decide, by decide⟩
theorem b10 {k : Int} (h : k.natAbs < 1024) : bits k ≤ 2000 := bits_le (bits_lt (n := 10) (by simpa using h)) (by decide)
theorem sp_54 {m n : Nat} (h : 10 ≤ m) {s : D} (hs : Spr (n + 80) s) : ∃ s', callP pr m 54 [.io s] = .ok (.sh (.bl true)) [.io s'] ∧ Spr n s' := by
  obtain ⟨m', rfl⟩ : ∃ k, m = k + 1 := ⟨m - 1, by omega⟩
  obtain ⟨r, s1, e1, h1, hr⟩ := sp_42 (pr := pr) (m := m') rfl rfl (by omega) (n := n + 79) hs
  obtain ⟨v, s2, e2, h2, v0, v1⟩ := sp_41 (pr := pr) (m := m') rfl (by omega) (n := n + 78) h1 3 (by decide) (b10 (by decide))
  obtain ⟨wide, most, iw, hw0, hwb, hm0, hm9⟩ := wm v0 v1
  obtain ⟨x, s3, e3, h3, hx, zx⟩ := sp_49 (pr := pr) (m := m') rfl rfl rfl (by omega) (n := n + 58) h2 hr wide most hw0 hwb hm0 hm9
  obtain ⟨y, s4, e4, h4, hy, zy⟩ := sp_49 (pr := pr) (m := m') rfl rfl rfl (by omega) (n := n + 38) h3 hr wide most hw0 hwb hm0 hm9
  obtain ⟨k, s5, e5, h5, k0, k1⟩ := sp_41 (pr := pr) (m := m') rfl (by omega) (n := n + 37) h4 41 (by decide) (b10 (by decide))
  obtain ⟨mz, s6, e6, h6, mz0, mz1⟩ := sp_41 (pr := pr) (m := m') rfl (by omega) (n := n + 36) h5 5 (by decide) (b10 (by decide))
  obtain ⟨many, rfl⟩ : ∃ k : Nat, mz = k := ⟨mz.toNat, by omega⟩
  obtain ⟨u, s7, e7, h7, hu, zu⟩ := sp_49 (pr := pr) (m := m') rfl rfl rfl (by omega) (n := n + 16) h6 hr 3 1 (by decide) (bits_le (bits_lt (n := 5) (by decide)) (by decide)) (by decide) (by decide)
  -- what the calls give
  have z30 := sp_30 g1 (m := m') (r := r) rfl (by omega) hr
  have z31 := sp_31 g1 (m := m') (r := r) rfl (by omega) hr
  have z47 := sp_47 (pr := pr) (m := m') rfl (by omega) r
  have z48 := sp_48 (pr := pr) (m := m') rfl (by omega) r
  have z32 := sp_32 g1 (m := m') (r := r) g3 rfl (by omega) hr (k - 20)
  have z32z := sp_32 g1 (m := m') (r := r) g3 rfl (by omega) hr 0
  rw [ofInt_zero] at z32z
  have z34 := sp_34 g1 (m := m') (r := r) rfl rfl g2 rfl (by omega) hr hx hy (by omega) (by omega)
  have z35 := sp_35 g1 (m := m') (r := r) rfl rfl g2 rfl (by omega) hr hx hy (by omega) (by omega)
  have z36 := sp_36 g1 (m := m') (r := r) rfl rfl g2 rfl (by omega) hr hx hy (by omega) (by omega)
  have ny := el_neg hr y
  have zny := sz_neg r y
  have z46 := sp_46 (pr := pr) (m := m') rfl rfl (by omega) hr hy (by omega)
  have z44 := sp_44 (pr := pr) (m := m') rfl rfl (by omega) hr hx hy (by omega) (by omega)
  have z44n := sp_44 (pr := pr) (m := m') rfl rfl (by omega) hr hx ny (by omega) (by omega)
  rw [← sub_neg hr] at z44n
  have z45 := sp_45 (pr := pr) (m := m') rfl rfl (by omega) hr hx hy (by omega)
  have zxy := sz_mul r x y
  have sxy := sz_add r x y
  have dxy := sz_sub r x y
  have ez := el_zero r
  have ez1 := el_one hr
  -- texts
  have S1 : Sh 60 8000 (.lst [vD r.zero, vD r.one]) := (sh_lst (shL_cons (sh_V hr ez (N := 1) (by rw [sz_zero]; decide) (by decide)) (shL_cons (sh_V hr ez1 (N := 1) (sz_one r) (by decide)) shL_nil))).mono (by decide) (by decide)
  have S2 : Sh 60 8000 (vD (r.ofInt (k - 20))) := by
    refine (sh_V hr (el_ofInt hr (k - 20)) (N := 1000) ?_ (by decide)).mono (by decide) (by decide)
    cases r with
    | wh => exact bits_le (bits_lt (n := 10) (by omega)) (by decide)
    | py p => exact Nat.le_trans (Rw.cut_len p [k - 20]) (by simp)
  have S3 : Sh 60 8000 (vD r.zero) := (sh_zero r).mono (by decide) (by decide)
  have S4 : Sh 60 8000 (.lst [vD (r.add x y), vD (r.sub x y), vD (r.mul x y), vD (r.add x y)]) := by
    have a1 := sh_V hr (el_add hr x y) (N := 210) (by omega) (by decide)
    have a2 := sh_V hr (el_sub hr x y) (N := 210) (by omega) (by decide)
    have a3 := sh_V hr (el_mul hr x y) (N := 210) (by omega) (by decide)
    exact (sh_lst (shL_cons a1 (shL_cons a2 (shL_cons a3 (shL_cons a1 shL_nil))))).mono (by decide) (by decide)
  have hmany : many < 5 := by omega
  have zp := sz_pw r x many
  have hzp : many * x.sz ≤ 4 * x.sz := Nat.mul_le_mul_right _ (by omega)
  have S5 : Sh 60 8000 (vD (r.pw x many)) := (sh_V hr (el_pw hr x many) (N := 1000) (by omega) (by decide)).mono (by decide) (by decide)
  have t1 := shown_sh S1 (by decide) (by decide)
  have t2 := shown_sh S2 (by decide) (by decide)
  have t3 := shown_sh S3 (by decide) (by decide)
  have t4 := shown_sh S4 (by decide) (by decide)
  have t5 := shown_sh S5 (by decide) (by decide)
  have z37 := sp_37 g1 (m := m') (r := r) rfl rfl rfl rfl (by omega) hr hx (by omega) many (by omega)
  have rm := rng_1 (z := (many : Int)) (n := many) rfl (by omega)
  have d00 := sp_39 g1 (m := m') (r := r) rfl rfl g2 rfl rfl (by omega) hr ez ez (by rw [sz_zero]; decide) (by rw [sz_zero]; decide)
  have dx0 := sp_39 g1 (m := m') (r := r) rfl rfl g2 rfl rfl (by omega) hr hx ez (by omega) (by rw [sz_zero]; decide)
  have d0x := sp_39 g1 (m := m') (r := r) rfl rfl g2 rfl rfl (by omega) hr ez hx (by rw [sz_zero]; decide) (by omega)
  rw [dvd_zero r ez] at d00
  rw [dvd_zero r hx] at dx0
  rw [zero_dvd] at d0x
  have qx := eqD_V hx ez
  have qy := eqD_V hy ez
  have q3 : eqD (.lst [.bl true, .bl true, .bl (decide (x = r.zero))]) (.lst [.bl true, .bl true, .bl (decide (x = r.zero))]) = some true :=
    eqD_self ((pl_lst (plL_cons (pl_bl 0 true) (plL_cons (pl_bl 0 true) (plL_cons (pl_bl 0 _) (plL_nil 0))))).mono (by decide))
  -- the run
  have key : ∀ sA, Spr (n + 2) sA → ∀ q12 q13 q14 q15 q11 : J, ∃ s', finR 1 (exs (pr.wd (callP pr m')) [.set 16 (.call 47 [.sh (.slot 1)]), .ite (.cmp .ne (.lst [.call 39 [.sh (.slot 1), .sh (.slot 16), .sh (.slot 16)], .call 39 [.sh (.slot 1), .sh (.slot 4), .sh (.slot 16)], .call 39 [.sh (.slot 1), .sh (.slot 16), .sh (.slot 4)]]) (.lst [.cst (.bl true), .cst (.bl true), .cmp .eq (.slot 4) (.slot 16)])) [.ret (.cst (.bl false))] [], .ret (.call 53 [.io 0, .sh (.slot 1), .sh (.slot 4)])]
      [.io sA, .sh (rgD r), .sh (.int wide), .sh (.int most), .sh (vD x), .sh (vD y), .sh (.int (k - 20)), .ow (.lst [vD (r.add x y), vD (r.sub x y), vD (r.mul x y), vD (r.add x y)]), .sh (vD (r.add x y)), .sh (.int many), .sh (vD (r.pw x many)), jS q11, jS q12, jS q13, jS q14, jS q15, .no]) = .ok (.sh (.bl true)) [.io s'] ∧ Spr n s' := by
    intro sA hA q12 q13 q14 q15 q11
    obtain ⟨s', e', h'⟩ := sp_53 (m := m') (by omega) hA hr hx (by omega)
    exact ⟨s', by simp -implicitDefEqProofs [z47, d00, dx0, d0x, qx, q3, e'], h'⟩
  have pre : ∀ c, finR 1 (exs (pr.wd (callP pr m')) [.ite (.cmp .ne (.slot 5) (.call 47 [.sh (.slot 1)])) [.unp (.tp [.nm 12, .nm 13]) (.call 38 [.sh (.slot 1), .sh (.slot 4), .sh (.slot 5)]), .ite (.or (.not (.call 50 [.sh (.slot 1), .sh (.slot 12)])) (.not (.call 51 [.sh (.slot 1), .sh (.slot 13), .sh (.slot 5)]))) [.ret (.cst (.bl false))] [], .ite (.or (.cmp .ne (.call 44 [.sh (.slot 1), .sh (.call 45 [.sh (.slot 1), .sh (.slot 12), .sh (.slot 5)]), .sh (.slot 13)]) (.slot 4)) (.cmp .ne (.callK 38 [2, 1, 0] [] [.sh (.slot 5), .sh (.slot 4), .sh (.slot 1)]) (.tup [.slot 12, .slot 13]))) [.ret (.cst (.bl false))] [], .set 14 (.call 49 [.io 0, .sh (.slot 1), .sh (.cst (.int 3)), .sh (.cst (.int 1))]), .set 14 (.ite (.call 51 [.sh (.slot 1), .sh (.slot 14), .sh (.slot 5)]) (.slot 14) (.call 47 [.sh (.slot 1)])), .set 15 (.call 44 [.sh (.slot 1), .sh (.call 45 [.sh (.slot 1), .sh (.slot 4), .sh (.slot 5)]), .sh (.slot 14)]), .ite (.cmp .ne (.call 39 [.sh (.slot 1), .sh (.slot 5), .sh (.slot 15)]) (.cmp .eq (.slot 14) (.call 47 [.sh (.slot 1)]))) [.ret (.cst (.bl false))] []] [], .set 16 (.call 47 [.sh (.slot 1)]), .ite (.cmp .ne (.lst [.call 39 [.sh (.slot 1), .sh (.slot 16), .sh (.slot 16)], .call 39 [.sh (.slot 1), .sh (.slot 4), .sh (.slot 16)], .call 39 [.sh (.slot 1), .sh (.slot 16), .sh (.slot 4)]]) (.lst [.cst (.bl true), .cst (.bl true), .cmp .eq (.slot 4) (.slot 16)])) [.ret (.cst (.bl false))] [], .ret (.call 53 [.io 0, .sh (.slot 1), .sh (.slot 4)])]
      [.io s6, .sh (rgD r), .sh (.int wide), .sh (.int most), .sh (vD x), .sh (vD y), .sh (.int (k - 20)), .ow (.lst [vD (r.add x y), vD (r.sub x y), vD (r.mul x y), vD (r.add x y)]), .sh (vD (r.add x y)), .sh (.int many), .sh (vD (r.pw x many)), jS (if many = 0 then none else some (.sh (.int ((many : Int) - 1)))), .no, .no, .no, .no, .no]) = c → callP pr (m' + 1) 54 [.io s] = c := by
    intro c hc
    refine (callP_at d_54 rfl rfl).trans ?_
    simp only [d_54, Nat.reduceSub, List.replicate, List.cons_append, List.nil_append]
    refine run1 [.io s1, .sh (rgD r), .no, .no, .no, .no, .no, .no, .no, .no, .no, .no, .no, .no, .no, .no, .no] (by simp -implicitDefEqProofs [e1]) ?_
    refine run1 [.io s2, .sh (rgD r), .sh (.int wide), .sh (.int most), .no, .no, .no, .no, .no, .no, .no, .no, .no, .no, .no, .no, .no] (by simp -implicitDefEqProofs [e2, iw, pow29]) ?_
    refine run1 [.io s4, .sh (rgD r), .sh (.int wide), .sh (.int most), .sh (vD x), .sh (vD y), .no, .no, .no, .no, .no, .no, .no, .no, .no, .no, .no] (by simp -implicitDefEqProofs [e3, e4]) ?_
    refine run1 [.io s4, .sh (rgD r), .sh (.int wide), .sh (.int most), .sh (vD x), .sh (vD y), .no, .no, .no, .no, .no, .no, .no, .no, .no, .no, .no] (by simp -implicitDefEqProofs [z30, z31, z47, z48, t1, Sh.q S1]) ?_
    refine run1 [.io s5, .sh (rgD r), .sh (.int wide), .sh (.int most), .sh (vD x), .sh (vD y), .sh (.int (k - 20)), .no, .no, .no, .no, .no, .no, .no, .no, .no, .no] (by simp -implicitDefEqProofs [e5]) ?_
    refine run1 [.io s5, .sh (rgD r), .sh (.int wide), .sh (.int most), .sh (vD x), .sh (vD y), .sh (.int (k - 20)), .no, .no, .no, .no, .no, .no, .no, .no, .no, .no] (by
      cases r with
      | wh => simp only [rgD, Rg.ofInt, vD_n] at *; simp -implicitDefEqProofs [z32, z32z, z47, t2, t3, Sh.q S2, Sh.q S3]
      | py p =>
        have z43 := sp_43 (pr := pr) (m := m') rfl (by omega) (Rg.pos hr) [k - 20] (by simp)
        rw [iD_cons, iD_nil] at z43
        simp only [rgD, Rg.ofInt, vD_f] at *
        simp -implicitDefEqProofs [z32, z32z, z43, z47, t2, t3, Sh.q S2, Sh.q S3]) ?_
    refine run1 [.io s5, .sh (rgD r), .sh (.int wide), .sh (.int most), .sh (vD x), .sh (vD y), .sh (.int (k - 20)), .ow (.lst [vD (r.add x y), vD (r.sub x y), vD (r.mul x y), vD (r.add x y)]), .no, .no, .no, .no, .no, .no, .no, .no, .no] (by simp -implicitDefEqProofs [z34, z35, z36]) ?_
    refine run1 [.io s5, .sh (rgD r), .sh (.int wide), .sh (.int most), .sh (vD x), .sh (vD y), .sh (.int (k - 20)), .ow (.lst [vD (r.add x y), vD (r.sub x y), vD (r.mul x y), vD (r.add x y)]), .sh (vD (r.add x y)), .no, .no, .no, .no, .no, .no, .no, .no] (by simp -implicitDefEqProofs [z44]) ?_
    refine run1 [.io s5, .sh (rgD r), .sh (.int wide), .sh (.int most), .sh (vD x), .sh (vD y), .sh (.int (k - 20)), .ow (.lst [vD (r.add x y), vD (r.sub x y), vD (r.mul x y), vD (r.add x y)]), .sh (vD (r.add x y)), .no, .no, .no, .no, .no, .no, .no, .no] (by simp -implicitDefEqProofs [z44n, z45, z46, t4, Sh.q S4]) ?_
    refine run1 [.io s6, .sh (rgD r), .sh (.int wide), .sh (.int most), .sh (vD x), .sh (vD y), .sh (.int (k - 20)), .ow (.lst [vD (r.add x y), vD (r.sub x y), vD (r.mul x y), vD (r.add x y)]), .sh (vD (r.add x y)), .sh (.int many), .sh (vD r.one), .no, .no, .no, .no, .no, .no] (by simp -implicitDefEqProofs [e6, z48]) ?_
    refine run1 [.io s6, .sh (rgD r), .sh (.int wide), .sh (.int most), .sh (vD x), .sh (vD y), .sh (.int (k - 20)), .ow (.lst [vD (r.add x y), vD (r.sub x y), vD (r.mul x y), vD (r.add x y)]), .sh (vD (r.add x y)), .sh (.int many), .sh (vD (r.pw x many)), jS (if many = 0 then none else some (.sh (.int ((many : Int) - 1)))), .no, .no, .no, .no, .no] (by
      simp -implicitDefEqProofs [rm]
      rw [forN_idx (mk := fun ρ j => [.io s6, .sh (rgD r), .sh (.int wide), .sh (.int most), .sh (vD x), .sh (vD y), .sh (.int (k - 20)), .ow (.lst [vD (r.add x y), vD (r.sub x y), vD (r.mul x y), vD (r.add x y)]), .sh (vD (r.add x y)), .sh (.int many), .sh (vD (r.pw x j)), jS (if j = 0 then none else some (.sh (.int ((j : Int) - 1)))), .no, .no, .no, .no, .no])]
      · rfl
      · intro j hj
        have h1 := sz_pw r x j
        have h2 : j * x.sz ≤ 4 * x.sz := Nat.mul_le_mul_right _ (by omega)
        have zz := sp_45 (pr := pr) (m := m') rfl rfl (by omega) hr (el_pw hr x j) hx (by omega)
        simp -implicitDefEqProofs [zz, jS_1]
        rfl) ?_
    refine run1 [.io s6, .sh (rgD r), .sh (.int wide), .sh (.int most), .sh (vD x), .sh (vD y), .sh (.int (k - 20)), .ow (.lst [vD (r.add x y), vD (r.sub x y), vD (r.mul x y), vD (r.add x y)]), .sh (vD (r.add x y)), .sh (.int many), .sh (vD (r.pw x many)), jS (if many = 0 then none else some (.sh (.int ((many : Int) - 1)))), .no, .no, .no, .no, .no] (by simp -implicitDefEqProofs [z37, t5, Sh.q S5]) ?_
    exact hc
  generalize (if many = 0 then (none : J) else some (.sh (.int ((many : Int) - 1)))) = q11 at pre
  by_cases hy0 : y = r.zero
  · obtain ⟨s', e', h'⟩ := key s6 (h6.mono (by omega)) none none none none q11
    refine ⟨s', pre _ ?_, h'⟩
    have qy' : eqD (vD y) (vD r.zero) = some true := by rw [qy, hy0]; simp
    refine run1 [.io s6, .sh (rgD r), .sh (.int wide), .sh (.int most), .sh (vD x), .sh (vD y), .sh (.int (k - 20)), .ow (.lst [vD (r.add x y), vD (r.sub x y), vD (r.mul x y), vD (r.add x y)]), .sh (vD (r.add x y)), .sh (.int many), .sh (vD (r.pw x many)), jS q11, .no, .no, .no, .no, .no] (by simp -implicitDefEqProofs [z47, qy']) ?_
    exact e'
  · obtain ⟨s', e', h'⟩ := key s7 (h7.mono (by omega)) (some (.sh (vD (r.div x y).1))) (some (.sh (vD (r.div x y).2))) (some (.sh (vD (if r.rstB u y then u else r.zero)))) (some (.sh (vD (r.add (r.mul x y) (if r.rstB u y then u else r.zero))))) q11
    refine ⟨s', pre _ ?_, h'⟩
    obtain ⟨dq, dr⟩ := div_is hr hx hy hy0
    obtain ⟨ed, er⟩ := el_div hr x y
    obtain ⟨zd, zr⟩ := sz_div hr hx hy hy0
    have z38 := sp_38 g1 (m := m') (r := r) rfl rfl g2 rfl (by omega) hr hx hy (by omega) (by omega) hy0
    have z50 := sp_50 (pr := pr) (m := m') rfl (by omega) hr ed (by omega)
    have z51 := sp_51 (pr := pr) (m := m') rfl rfl (by omega) hr er hy (by omega)
    rw [(rstB_iff r _ _).2 dr] at z51
    have z51u := sp_51 (pr := pr) (m := m') rfl rfl (by omega) hr hu hy (by omega)
    have z45q := sp_45 (pr := pr) (m := m') rfl rfl (by omega) hr ed hy (by omega)
    have zqy := sz_mul r (r.div x y).1 y
    have z44q := sp_44 (pr := pr) (m := m') rfl rfl (by omega) hr (el_mul hr (r.div x y).1 y) er (by omega) (by omega)
    rw [dq] at z44q
    have qxx := eqD_V hx hx
    have qt : eqD (.tup [vD (r.div x y).1, vD (r.div x y).2]) (.tup [vD (r.div x y).1, vD (r.div x y).2]) = some true := eqD_self ((pl_tup (plL_cons (pl_V _) (plL_cons (pl_V _) (plL_nil 1)))).mono (by decide))
    obtain ⟨w, hw⟩ : ∃ w, w = if r.rstB u y then u else r.zero := ⟨_, rfl⟩
    rw [← hw] at e'
    have hwe : r.el w := by rw [hw]; split; exact hu; exact ez
    have hwz : w.sz ≤ 100 := by rw [hw]; split; exact zu; rw [sz_zero]; omega
    have hwr : r.rst w y := by
      rw [hw]; split
      · rename_i hh; exact (rstB_iff r _ _).1 hh
      · exact rst_zero hy hy0
    have z44w := sp_44 (pr := pr) (m := m') rfl rfl (by omega) hr (el_mul hr x y) hwe (by omega) (by omega)
    have swz := sz_add r (r.mul x y) w
    have z39 := sp_39 g1 (m := m') (r := r) rfl rfl g2 rfl rfl (by omega) hr hy (el_add hr (r.mul x y) w) (by omega) (by omega)
    rw [dvd_rst hr hx hy hwe hy0 hwr] at z39
    have qw := eqD_V hwe ez
    have blk : ex (pr.wd (callP pr m')) (.ite (.cmp .ne (.slot 5) (.call 47 [.sh (.slot 1)])) [.unp (.tp [.nm 12, .nm 13]) (.call 38 [.sh (.slot 1), .sh (.slot 4), .sh (.slot 5)]), .ite (.or (.not (.call 50 [.sh (.slot 1), .sh (.slot 12)])) (.not (.call 51 [.sh (.slot 1), .sh (.slot 13), .sh (.slot 5)]))) [.ret (.cst (.bl false))] [], .ite (.or (.cmp .ne (.call 44 [.sh (.slot 1), .sh (.call 45 [.sh (.slot 1), .sh (.slot 12), .sh (.slot 5)]), .sh (.slot 13)]) (.slot 4)) (.cmp .ne (.callK 38 [2, 1, 0] [] [.sh (.slot 5), .sh (.slot 4), .sh (.slot 1)]) (.tup [.slot 12, .slot 13]))) [.ret (.cst (.bl false))] [], .set 14 (.call 49 [.io 0, .sh (.slot 1), .sh (.cst (.int 3)), .sh (.cst (.int 1))]), .set 14 (.ite (.call 51 [.sh (.slot 1), .sh (.slot 14), .sh (.slot 5)]) (.slot 14) (.call 47 [.sh (.slot 1)])), .set 15 (.call 44 [.sh (.slot 1), .sh (.call 45 [.sh (.slot 1), .sh (.slot 4), .sh (.slot 5)]), .sh (.slot 14)]), .ite (.cmp .ne (.call 39 [.sh (.slot 1), .sh (.slot 5), .sh (.slot 15)]) (.cmp .eq (.slot 14) (.call 47 [.sh (.slot 1)]))) [.ret (.cst (.bl false))] []] []) [.io s6, .sh (rgD r), .sh (.int wide), .sh (.int most), .sh (vD x), .sh (vD y), .sh (.int (k - 20)), .ow (.lst [vD (r.add x y), vD (r.sub x y), vD (r.mul x y), vD (r.add x y)]), .sh (vD (r.add x y)), .sh (.int many), .sh (vD (r.pw x many)), jS q11, .no, .no, .no, .no, .no] = .nx [.io s7, .sh (rgD r), .sh (.int wide), .sh (.int most), .sh (vD x), .sh (vD y), .sh (.int (k - 20)), .ow (.lst [vD (r.add x y), vD (r.sub x y), vD (r.mul x y), vD (r.add x y)]), .sh (vD (r.add x y)), .sh (.int many), .sh (vD (r.pw x many)), jS q11, .sh (vD (r.div x y).1), .sh (vD (r.div x y).2), .sh (vD w), .sh (vD (r.add (r.mul x y) w)), .no] := by
      have qy' : eqD (vD y) (vD r.zero) = some false := by rw [qy]; simp [hy0]
      have qxx' : eqD (vD x) (vD x) = some true := by rw [qxx]; simp
      rw [x_ite, show tst (pr.wd (callP pr m')) (.cmp .ne (.slot 5) (.call 47 [.sh (.slot 1)])) [.io s6, .sh (rgD r), .sh (.int wide), .sh (.int most), .sh (vD x), .sh (vD y), .sh (.int (k - 20)), .ow (.lst [vD (r.add x y), vD (r.sub x y), vD (r.mul x y), vD (r.add x y)]), .sh (vD (r.add x y)), .sh (.int many), .sh (vD (r.pw x many)), jS q11, .no, .no, .no, .no, .no] = .ok (true, [.io s6, .sh (rgD r), .sh (.int wide), .sh (.int most), .sh (vD x), .sh (vD y), .sh (.int (k - 20)), .ow (.lst [vD (r.add x y), vD (r.sub x y), vD (r.mul x y), vD (r.add x y)]), .sh (vD (r.add x y)), .sh (.int many), .sh (vD (r.pw x many)), jS q11, .no, .no, .no, .no, .no]) from by simp -implicitDefEqProofs [z47, qy'], brX_1]
      refine run2 [.io s6, .sh (rgD r), .sh (.int wide), .sh (.int most), .sh (vD x), .sh (vD y), .sh (.int (k - 20)), .ow (.lst [vD (r.add x y), vD (r.sub x y), vD (r.mul x y), vD (r.add x y)]), .sh (vD (r.add x y)), .sh (.int many), .sh (vD (r.pw x many)), jS q11, .sh (vD (r.div x y).1), .sh (vD (r.div x y).2), .no, .no, .no] (by simp -implicitDefEqProofs [z38]) ?_
      refine run2 [.io s6, .sh (rgD r), .sh (.int wide), .sh (.int most), .sh (vD x), .sh (vD y), .sh (.int (k - 20)), .ow (.lst [vD (r.add x y), vD (r.sub x y), vD (r.mul x y), vD (r.add x y)]), .sh (vD (r.add x y)), .sh (.int many), .sh (vD (r.pw x many)), jS q11, .sh (vD (r.div x y).1), .sh (vD (r.div x y).2), .no, .no, .no] (by simp -implicitDefEqProofs [z50, z51]) ?_
      refine run2 [.io s6, .sh (rgD r), .sh (.int wide), .sh (.int most), .sh (vD x), .sh (vD y), .sh (.int (k - 20)), .ow (.lst [vD (r.add x y), vD (r.sub x y), vD (r.mul x y), vD (r.add x y)]), .sh (vD (r.add x y)), .sh (.int many), .sh (vD (r.pw x many)), jS q11, .sh (vD (r.div x y).1), .sh (vD (r.div x y).2), .no, .no, .no] (by simp -implicitDefEqProofs [z45q, z44q, z38, qxx', qt]) ?_
      refine run2 [.io s7, .sh (rgD r), .sh (.int wide), .sh (.int most), .sh (vD x), .sh (vD y), .sh (.int (k - 20)), .ow (.lst [vD (r.add x y), vD (r.sub x y), vD (r.mul x y), vD (r.add x y)]), .sh (vD (r.add x y)), .sh (.int many), .sh (vD (r.pw x many)), jS q11, .sh (vD (r.div x y).1), .sh (vD (r.div x y).2), .sh (vD u), .no, .no] (by simp -implicitDefEqProofs [e7]) ?_
      refine run2 [.io s7, .sh (rgD r), .sh (.int wide), .sh (.int most), .sh (vD x), .sh (vD y), .sh (.int (k - 20)), .ow (.lst [vD (r.add x y), vD (r.sub x y), vD (r.mul x y), vD (r.add x y)]), .sh (vD (r.add x y)), .sh (.int many), .sh (vD (r.pw x many)), jS q11, .sh (vD (r.div x y).1), .sh (vD (r.div x y).2), .sh (vD w), .no, .no] (by
        rw [hw]
        cases hb : r.rstB u y
        · rw [hb] at z51u; simp -implicitDefEqProofs [z51u, z47]
        · rw [hb] at z51u; simp -implicitDefEqProofs [z51u, z47]) ?_
      refine run2 [.io s7, .sh (rgD r), .sh (.int wide), .sh (.int most), .sh (vD x), .sh (vD y), .sh (.int (k - 20)), .ow (.lst [vD (r.add x y), vD (r.sub x y), vD (r.mul x y), vD (r.add x y)]), .sh (vD (r.add x y)), .sh (.int many), .sh (vD (r.pw x many)), jS q11, .sh (vD (r.div x y).1), .sh (vD (r.div x y).2), .sh (vD w), .sh (vD (r.add (r.mul x y) w)), .no] (by simp -implicitDefEqProofs [z45, z44w]) ?_
      cases hd : decide (w = r.zero)
      · rw [hd] at z39 qw; simp -implicitDefEqProofs [z39, z47, qw]
      · rw [hd] at z39 qw; simp -implicitDefEqProofs [z39, z47, qw]
    rw [exs_2, blk]
    exact e'
end Lw
/-! k01: law. -/
namespace Lw
open PySem Dp
theorem law_ok (ns : List Int) (hn : ns.length ≤ 63) (hb : ∀ z ∈ ns, Builtin.Int.intBits z ≤ 1048576) : ∃ fin, callP pr 40 55 [.sh (.scr ns)] = .ok (.sh (.bl true)) fin := by
  refine ⟨[.no], ?_⟩
  refine (callP_at d_55 rfl rfl).trans ?_
  obtain ⟨k, hk⟩ : ∃ k : Nat, max 1 (min 4 (ns.length : Int)) = k := ⟨(max 1 (min 4 (ns.length : Int))).toNat, by omega⟩
  have r1 := rng_1 (z := max 1 (min 4 (ns.length : Int))) (n := k) hk (by omega)
  have r3 := rng_1 (z := 3) (n := 3) rfl (by omega)
  simp -implicitDefEqProofs [d_55, r1]
  let I : Nat → Rho → Prop := fun j ρ => ∃ q1 q2 q3 : J, ρ = [.sh (.scr ns), jS q1, jS q2, jS q3]
  refine seq_ex (I := I k) (forN_ex I ⟨none, none, none, rfl⟩ ?_) ?_
  · rintro j _ hj ⟨q1, q2, q3, rfl⟩
    obtain ⟨s, e1, h1⟩ := sp_40 (pr := pr) (m := 39) rfl (by decide) ns hn hb j (by omega)
    let I2 : Nat → Rho → Prop := fun i ρ => ∃ s q3, ρ = [.sh (.scr ns), .sh (.int j), .ow s, jS q3] ∧ Spr (900000 - 80 * i) s
    obtain ⟨ρ', e2, s', q3', rfl, _⟩ := forN_ex (W := pr.wd (callP pr 39)) (t := .nm 3) (b := [.ite (.not (.call 54 [.io 2])) [.ret (.cst (.bl false))] []]) (n := 3)
      (ρ := [.sh (.scr ns), .sh (.int j), .ow s, jS q3]) I2 ⟨s, q3, rfl, h1⟩ (by
        rintro i _ hi ⟨s, q3, rfl, hs⟩
        obtain ⟨s', e, h'⟩ := sp_54 (m := 39) (by decide) (n := 900000 - 80 * (i + 1)) (hs.mono (by omega))
        exact ⟨_, by simp -implicitDefEqProofs [e]; rfl, s', some (.sh (.int i)), rfl, h'⟩)
    exact ⟨[.sh (.scr ns), .sh (.int j), .ow s', jS q3'], by simp -implicitDefEqProofs [e1, r3, e2], some (.sh (.int j)), some (.fr s'), q3', rfl⟩
  · rintro _ ⟨q1, q2, q3, rfl⟩
    simp -implicitDefEqProofs
end Lw
namespace Lw
open PySem PySem.Spec PyProof.Rows L2 Dp
theorem fin_mk {P : Program} {w : World} {K : PySem.W.Frag} {h : Heap} {mg : Str → Option Value} {fa : Addr} (X : K.In h) (G : h.Ns mainGlobals mg) (hfa : mg "law" = some (.ref fa))
    {C0 : Addr}
    {C1 : Addr}
    {C2 : Addr}
    {C3 : Addr}
    {C4 : Addr}
    {C5 : Addr}
    {f0 : Addr} {od0 an0 : Option Addr} {sl0 : Array (Option Value)} {oc0 kV0 dc0 pm0 cd0 ct0 : Value}
    {f1 : Addr} {od1 an1 : Option Addr} {sl1 : Array (Option Value)} {oc1 kV1 dc1 pm1 cd1 ct1 : Value}
    {f2 : Addr} {od2 an2 : Option Addr} {sl2 : Array (Option Value)} {oc2 kV2 dc2 pm2 cd2 ct2 : Value}
    {f3 : Addr} {od3 an3 : Option Addr} {sl3 : Array (Option Value)} {oc3 kV3 dc3 pm3 cd3 ct3 : Value}
    {f4 : Addr} {od4 an4 : Option Addr} {sl4 : Array (Option Value)} {oc4 kV4 dc4 pm4 cd4 ct4 : Value}
    {f5 : Addr} {od5 an5 : Option Addr} {sl5 : Array (Option Value)} {oc5 kV5 dc5 pm5 cd5 ct5 : Value}
    {f6 : Addr} {od6 an6 : Option Addr} {sl6 : Array (Option Value)} {oc6 kV6 dc6 pm6 cd6 ct6 : Value}
    {f7 : Addr} {od7 an7 : Option Addr} {sl7 : Array (Option Value)} {oc7 kV7 dc7 pm7 cd7 ct7 : Value}
    {f8 : Addr} {od8 an8 : Option Addr} {sl8 : Array (Option Value)} {oc8 kV8 dc8 pm8 cd8 ct8 : Value}
    {f9 : Addr} {od9 an9 : Option Addr} {sl9 : Array (Option Value)} {oc9 kV9 dc9 pm9 cd9 ct9 : Value}
    {f10 : Addr} {od10 an10 : Option Addr} {sl10 : Array (Option Value)} {oc10 kV10 dc10 pm10 cd10 ct10 : Value}
    {f11 : Addr} {od11 an11 : Option Addr} {sl11 : Array (Option Value)} {oc11 kV11 dc11 pm11 cd11 ct11 : Value}
    {f12 : Addr} {od12 an12 : Option Addr} {sl12 : Array (Option Value)} {oc12 kV12 dc12 pm12 cd12 ct12 : Value}
    {f13 : Addr} {od13 an13 : Option Addr} {sl13 : Array (Option Value)} {oc13 kV13 dc13 pm13 cd13 ct13 : Value}
    {f14 : Addr} {od14 an14 : Option Addr} {sl14 : Array (Option Value)} {oc14 kV14 dc14 pm14 cd14 ct14 : Value}
    {f15 : Addr} {od15 an15 : Option Addr} {sl15 : Array (Option Value)} {oc15 kV15 dc15 pm15 cd15 ct15 : Value}
    {f16 : Addr} {od16 an16 : Option Addr} {sl16 : Array (Option Value)} {oc16 kV16 dc16 pm16 cd16 ct16 : Value}
    {f17 : Addr} {od17 an17 : Option Addr} {sl17 : Array (Option Value)} {oc17 kV17 dc17 pm17 cd17 ct17 : Value}
    {f18 : Addr} {od18 an18 : Option Addr} {sl18 : Array (Option Value)} {oc18 kV18 dc18 pm18 cd18 ct18 : Value}
    {f19 : Addr} {od19 an19 : Option Addr} {sl19 : Array (Option Value)} {oc19 kV19 dc19 pm19 cd19 ct19 : Value}
    {f20 : Addr} {od20 an20 : Option Addr} {sl20 : Array (Option Value)} {oc20 kV20 dc20 pm20 cd20 ct20 : Value}
    {f21 : Addr} {od21 an21 : Option Addr} {sl21 : Array (Option Value)} {oc21 kV21 dc21 pm21 cd21 ct21 : Value}
    {f22 : Addr} {od22 an22 : Option Addr} {sl22 : Array (Option Value)} {oc22 kV22 dc22 pm22 cd22 ct22 : Value}
    {f23 : Addr} {od23 an23 : Option Addr} {sl23 : Array (Option Value)} {oc23 kV23 dc23 pm23 cd23 ct23 : Value}
    {f24 : Addr} {od24 an24 : Option Addr} {sl24 : Array (Option Value)} {oc24 kV24 dc24 pm24 cd24 ct24 : Value}
    {f25 : Addr} {od25 an25 : Option Addr} {sl25 : Array (Option Value)} {oc25 kV25 dc25 pm25 cd25 ct25 : Value}
    {f26 : Addr} {od26 an26 : Option Addr} {sl26 : Array (Option Value)} {oc26 kV26 dc26 pm26 cd26 ct26 : Value}
    {f27 : Addr} {od27 an27 : Option Addr} {sl27 : Array (Option Value)} {oc27 kV27 dc27 pm27 cd27 ct27 : Value}
    {f28 : Addr} {od28 an28 : Option Addr} {sl28 : Array (Option Value)} {oc28 kV28 dc28 pm28 cd28 ct28 : Value}
    {f29 : Addr} {od29 an29 : Option Addr} {sl29 : Array (Option Value)} {oc29 kV29 dc29 pm29 cd29 ct29 : Value}
    {f30 : Addr} {od30 an30 : Option Addr} {sl30 : Array (Option Value)} {oc30 kV30 dc30 pm30 cd30 ct30 : Value}
    {f31 : Addr} {od31 an31 : Option Addr} {sl31 : Array (Option Value)} {oc31 kV31 dc31 pm31 cd31 ct31 : Value}
    {f32 : Addr} {od32 an32 : Option Addr} {sl32 : Array (Option Value)} {oc32 kV32 dc32 pm32 cd32 ct32 : Value}
    {f33 : Addr} {od33 an33 : Option Addr} {sl33 : Array (Option Value)} {oc33 kV33 dc33 pm33 cd33 ct33 : Value}
    {f34 : Addr} {od34 an34 : Option Addr} {sl34 : Array (Option Value)} {oc34 kV34 dc34 pm34 cd34 ct34 : Value}
    {f35 : Addr} {od35 an35 : Option Addr} {sl35 : Array (Option Value)} {oc35 kV35 dc35 pm35 cd35 ct35 : Value}
    {f36 : Addr} {od36 an36 : Option Addr} {sl36 : Array (Option Value)} {oc36 kV36 dc36 pm36 cd36 ct36 : Value}
    {f37 : Addr} {od37 an37 : Option Addr} {sl37 : Array (Option Value)} {oc37 kV37 dc37 pm37 cd37 ct37 : Value}
    {f38 : Addr} {od38 an38 : Option Addr} {sl38 : Array (Option Value)} {oc38 kV38 dc38 pm38 cd38 ct38 : Value}
    {f39 : Addr} {od39 an39 : Option Addr} {sl39 : Array (Option Value)} {oc39 kV39 dc39 pm39 cd39 ct39 : Value}
    {f40 : Addr} {od40 an40 : Option Addr} {sl40 : Array (Option Value)} {oc40 kV40 dc40 pm40 cd40 ct40 : Value}
    {f41 : Addr} {od41 an41 : Option Addr} {sl41 : Array (Option Value)} {oc41 kV41 dc41 pm41 cd41 ct41 : Value}
    {f42 : Addr} {od42 an42 : Option Addr} {sl42 : Array (Option Value)} {oc42 kV42 dc42 pm42 cd42 ct42 : Value}
    {f43 : Addr} {od43 an43 : Option Addr} {sl43 : Array (Option Value)} {oc43 kV43 dc43 pm43 cd43 ct43 : Value}
    {f44 : Addr} {od44 an44 : Option Addr} {sl44 : Array (Option Value)} {oc44 kV44 dc44 pm44 cd44 ct44 : Value}
    {f45 : Addr} {od45 an45 : Option Addr} {sl45 : Array (Option Value)} {oc45 kV45 dc45 pm45 cd45 ct45 : Value}
    {f46 : Addr} {od46 an46 : Option Addr} {sl46 : Array (Option Value)} {oc46 kV46 dc46 pm46 cd46 ct46 : Value}
    {f47 : Addr} {od47 an47 : Option Addr} {sl47 : Array (Option Value)} {oc47 kV47 dc47 pm47 cd47 ct47 : Value}
    {f48 : Addr} {od48 an48 : Option Addr} {sl48 : Array (Option Value)} {oc48 kV48 dc48 pm48 cd48 ct48 : Value}
    {f49 : Addr} {od49 an49 : Option Addr} {sl49 : Array (Option Value)} {oc49 kV49 dc49 pm49 cd49 ct49 : Value}
    {f50 : Addr} {od50 an50 : Option Addr} {sl50 : Array (Option Value)} {oc50 kV50 dc50 pm50 cd50 ct50 : Value}
    {f51 : Addr} {od51 an51 : Option Addr} {sl51 : Array (Option Value)} {oc51 kV51 dc51 pm51 cd51 ct51 : Value}
    {f52 : Addr} {od52 an52 : Option Addr} {sl52 : Array (Option Value)} {oc52 kV52 dc52 pm52 cd52 ct52 : Value}
    {f53 : Addr} {od53 an53 : Option Addr} {sl53 : Array (Option Value)} {oc53 kV53 dc53 pm53 cd53 ct53 : Value}
    {f54 : Addr} {od54 an54 : Option Addr} {sl54 : Array (Option Value)} {oc54 kV54 dc54 pm54 cd54 ct54 : Value}
    {f55 : Addr} {od55 an55 : Option Addr} {sl55 : Array (Option Value)} {oc55 kV55 dc55 pm55 cd55 ct55 : Value}
    {fI : Addr} {odI anI cddI cldI : Option Addr} {slI ccsI cslI : Array (Option Value)} {ocI dcI pmI ctI cclI clI : Value} {cdaI ccI : Addr} {vsI : Array Value} {fileI : Str} {tfI : Tok}
    {nm0 q0 : Str} {N0 : Addr} {bs0 sub0 : List Value} {sn0 : List Str} {ab0 : Bool} {co0 : Option Bool} {dd0 : Option Addr} {x0_0 x1_0 x2_0 x3_0 x5_0 : Option Value}
    {nm1 q1 : Str} {N1 : Addr} {bs1 sub1 : List Value} {sn1 : List Str} {ab1 : Bool} {co1 : Option Bool} {dd1 : Option Addr} {x0_1 x1_1 x2_1 x3_1 x5_1 : Option Value}
    {nm2 q2 : Str} {N2 : Addr} {bs2 sub2 : List Value} {sn2 : List Str} {ab2 : Bool} {co2 : Option Bool} {dd2 : Option Addr} {x0_2 x1_2 x2_2 x3_2 x5_2 : Option Value}
    {nm3 q3 : Str} {N3 : Addr} {bs3 sub3 : List Value} {sn3 : List Str} {ab3 : Bool} {co3 : Option Bool} {dd3 : Option Addr} {x0_3 x1_3 x2_3 x3_3 x5_3 : Option Value}
    {tk_BY : Tok}
    {tk_MOST_POWER : Tok}
    {ad_PRIMES : Addr} {od_PRIMES : Option Addr} {nn_PRIMES : Nat} {ss_PRIMES : Array (Option Value)} {tk_PRIMES_0 tk_PRIMES_1 tk_PRIMES_2 : Tok}
    {ad_WHOLE : Addr} {od_WHOLE : Option Addr} {nn_WHOLE : Nat} {ss_WHOLE : Array (Option Value)} {tk_WHOLE_0 : Tok}
    (aC0 : PySem.W.nsIn K mainGlobals "SayingError" = some (some (.ref C0)))
    (aC1 : PySem.W.nsIn K mainGlobals "InvalidRing" = some (some (.ref C1)))
    (aC2 : PySem.W.nsIn K mainGlobals "InvalidNumber" = some (some (.ref C2)))
    (aC3 : PySem.W.nsIn K mainGlobals "InvalidElement" = some (some (.ref C3)))
    (aC4 : PySem.W.nsIn K mainGlobals "Whole" = some (some (.ref C4)))
    (aC5 : PySem.W.nsIn K mainGlobals "Rests" = some (some (.ref C5)))
    (a0 : PySem.W.nsIn K mainGlobals "is_integer" = some (some (.ref f0)))
    (l0 : K.lookup f0 = some ⟨oc0, od0, .func (PySem.W.fnOf "is_integer" "is_integer" (defArgs t_0) (defBody t_0) (defScope t_0) .none kV0 dc0 pm0 an0 cd0 ct0), sl0⟩)
    (c0 : PySem.W.codeIn K cd0 "is_integer" = true)
    (k0 : PySem.W.keepIn K (.ref f0) = true)
    (a1 : PySem.W.nsIn K mainGlobals "is_between" = some (some (.ref f1)))
    (l1 : K.lookup f1 = some ⟨oc1, od1, .func (PySem.W.fnOf "is_between" "is_between" (defArgs t_1) (defBody t_1) (defScope t_1) .none kV1 dc1 pm1 an1 cd1 ct1), sl1⟩)
    (c1 : PySem.W.codeIn K cd1 "is_between" = true)
    (k1 : PySem.W.keepIn K (.ref f1) = true)
    (a2 : PySem.W.nsIn K mainGlobals "need_number" = some (some (.ref f2)))
    (l2 : K.lookup f2 = some ⟨oc2, od2, .func (PySem.W.fnOf "need_number" "need_number" (defArgs t_2) (defBody t_2) (defScope t_2) .none kV2 dc2 pm2 an2 cd2 ct2), sl2⟩)
    (c2 : PySem.W.codeIn K cd2 "need_number" = true)
    (k2 : PySem.W.keepIn K (.ref f2) = true)
    (a3 : PySem.W.nsIn K mainGlobals "anew" = some (some (.ref f3)))
    (l3 : K.lookup f3 = some ⟨oc3, od3, .func (PySem.W.fnOf "anew" "anew" (defArgs t_3) (defBody t_3) (defScope t_3) .none kV3 dc3 pm3 an3 cd3 ct3), sl3⟩)
    (c3 : PySem.W.codeIn K cd3 "anew" = true)
    (k3 : PySem.W.keepIn K (.ref f3) = true)
    (a4 : PySem.W.nsIn K mainGlobals "is_multiple" = some (some (.ref f4)))
    (l4 : K.lookup f4 = some ⟨oc4, od4, .func (PySem.W.fnOf "is_multiple" "is_multiple" (defArgs t_4) (defBody t_4) (defScope t_4) .none kV4 dc4 pm4 an4 cd4 ct4), sl4⟩)
    (c4 : PySem.W.codeIn K cd4 "is_multiple" = true)
    (k4 : PySem.W.keepIn K (.ref f4) = true)
    (a5 : PySem.W.nsIn K mainGlobals "raised" = some (some (.ref f5)))
    (l5 : K.lookup f5 = some ⟨oc5, od5, .func (PySem.W.fnOf "raised" "raised" (defArgs t_5) (defBody t_5) (defScope t_5) .none kV5 dc5 pm5 an5 cd5 ct5), sl5⟩)
    (c5 : PySem.W.codeIn K cd5 "raised" = true)
    (k5 : PySem.W.keepIn K (.ref f5) = true)
    (a6 : PySem.W.findIn K (.ref C4) "__init__" = some (some (.ref f6)))
    (i6 : PySem.W.isFn K (.ref f6) = true)
    (l6 : K.lookup f6 = some ⟨oc6, od6, .func (PySem.W.fnOf "__init__" "Whole.__init__" (defArgs t_6) (defBody t_6) (defScope t_6) .none kV6 dc6 pm6 an6 cd6 ct6), sl6⟩)
    (c6 : PySem.W.codeIn K cd6 "Whole.__init__" = true)
    (k6 : PySem.W.keepIn K (.ref f6) = true)
    (a7 : PySem.W.findIn K (.ref C4) "has" = some (some (.ref f7)))
    (i7 : PySem.W.isFn K (.ref f7) = true)
    (l7 : K.lookup f7 = some ⟨oc7, od7, .func (PySem.W.fnOf "has" "Whole.has" (defArgs t_7) (defBody t_7) (defScope t_7) .none kV7 dc7 pm7 an7 cd7 ct7), sl7⟩)
    (c7 : PySem.W.codeIn K cd7 "Whole.has" = true)
    (k7 : PySem.W.keepIn K (.ref f7) = true)
    (a8 : PySem.W.findIn K (.ref C4) "of_integer" = some (some (.ref f8)))
    (i8 : PySem.W.isFn K (.ref f8) = true)
    (l8 : K.lookup f8 = some ⟨oc8, od8, .func (PySem.W.fnOf "of_integer" "Whole.of_integer" (defArgs t_8) (defBody t_8) (defScope t_8) .none kV8 dc8 pm8 an8 cd8 ct8), sl8⟩)
    (c8 : PySem.W.codeIn K cd8 "Whole.of_integer" = true)
    (k8 : PySem.W.keepIn K (.ref f8) = true)
    (a9 : PySem.W.findIn K (.ref C4) "plus" = some (some (.ref f9)))
    (i9 : PySem.W.isFn K (.ref f9) = true)
    (l9 : K.lookup f9 = some ⟨oc9, od9, .func (PySem.W.fnOf "plus" "Whole.plus" (defArgs t_9) (defBody t_9) (defScope t_9) .none kV9 dc9 pm9 an9 cd9 ct9), sl9⟩)
    (c9 : PySem.W.codeIn K cd9 "Whole.plus" = true)
    (k9 : PySem.W.keepIn K (.ref f9) = true)
    (a10 : PySem.W.findIn K (.ref C4) "less" = some (some (.ref f10)))
    (i10 : PySem.W.isFn K (.ref f10) = true)
    (l10 : K.lookup f10 = some ⟨oc10, od10, .func (PySem.W.fnOf "less" "Whole.less" (defArgs t_10) (defBody t_10) (defScope t_10) .none kV10 dc10 pm10 an10 cd10 ct10), sl10⟩)
    (c10 : PySem.W.codeIn K cd10 "Whole.less" = true)
    (k10 : PySem.W.keepIn K (.ref f10) = true)
    (a11 : PySem.W.findIn K (.ref C4) "times" = some (some (.ref f11)))
    (i11 : PySem.W.isFn K (.ref f11) = true)
    (l11 : K.lookup f11 = some ⟨oc11, od11, .func (PySem.W.fnOf "times" "Whole.times" (defArgs t_11) (defBody t_11) (defScope t_11) .none kV11 dc11 pm11 an11 cd11 ct11), sl11⟩)
    (c11 : PySem.W.codeIn K cd11 "Whole.times" = true)
    (k11 : PySem.W.keepIn K (.ref f11) = true)
    (a12 : PySem.W.findIn K (.ref C4) "parted_by" = some (some (.ref f12)))
    (i12 : PySem.W.isFn K (.ref f12) = true)
    (l12 : K.lookup f12 = some ⟨oc12, od12, .func (PySem.W.fnOf "parted_by" "Whole.parted_by" (defArgs t_12) (defBody t_12) (defScope t_12) .none kV12 dc12 pm12 an12 cd12 ct12), sl12⟩)
    (c12 : PySem.W.codeIn K cd12 "Whole.parted_by" = true)
    (k12 : PySem.W.keepIn K (.ref f12) = true)
    (a13 : PySem.W.findIn K (.ref C5) "__init__" = some (some (.ref f13)))
    (i13 : PySem.W.isFn K (.ref f13) = true)
    (l13 : K.lookup f13 = some ⟨oc13, od13, .func (PySem.W.fnOf "__init__" "Rests.__init__" (defArgs t_13) (defBody t_13) (defScope t_13) .none kV13 dc13 pm13 an13 cd13 ct13), sl13⟩)
    (c13 : PySem.W.codeIn K cd13 "Rests.__init__" = true)
    (k13 : PySem.W.keepIn K (.ref f13) = true)
    (a14 : PySem.W.findIn K (.ref C5) "has" = some (some (.ref f14)))
    (i14 : PySem.W.isFn K (.ref f14) = true)
    (l14 : K.lookup f14 = some ⟨oc14, od14, .func (PySem.W.fnOf "has" "Rests.has" (defArgs t_14) (defBody t_14) (defScope t_14) .none kV14 dc14 pm14 an14 cd14 ct14), sl14⟩)
    (c14 : PySem.W.codeIn K cd14 "Rests.has" = true)
    (k14 : PySem.W.keepIn K (.ref f14) = true)
    (a15 : PySem.W.findIn K (.ref C5) "trimmed" = some (some (.ref f15)))
    (i15 : PySem.W.isFn K (.ref f15) = true)
    (l15 : K.lookup f15 = some ⟨oc15, od15, .func (PySem.W.fnOf "trimmed" "Rests.trimmed" (defArgs t_15) (defBody t_15) (defScope t_15) .none kV15 dc15 pm15 an15 cd15 ct15), sl15⟩)
    (c15 : PySem.W.codeIn K cd15 "Rests.trimmed" = true)
    (k15 : PySem.W.keepIn K (.ref f15) = true)
    (a16 : PySem.W.findIn K (.ref C5) "of_integer" = some (some (.ref f16)))
    (i16 : PySem.W.isFn K (.ref f16) = true)
    (l16 : K.lookup f16 = some ⟨oc16, od16, .func (PySem.W.fnOf "of_integer" "Rests.of_integer" (defArgs t_16) (defBody t_16) (defScope t_16) .none kV16 dc16 pm16 an16 cd16 ct16), sl16⟩)
    (c16 : PySem.W.codeIn K cd16 "Rests.of_integer" = true)
    (k16 : PySem.W.keepIn K (.ref f16) = true)
    (a17 : PySem.W.findIn K (.ref C5) "plus" = some (some (.ref f17)))
    (i17 : PySem.W.isFn K (.ref f17) = true)
    (l17 : K.lookup f17 = some ⟨oc17, od17, .func (PySem.W.fnOf "plus" "Rests.plus" (defArgs t_17) (defBody t_17) (defScope t_17) .none kV17 dc17 pm17 an17 cd17 ct17), sl17⟩)
    (c17 : PySem.W.codeIn K cd17 "Rests.plus" = true)
    (k17 : PySem.W.keepIn K (.ref f17) = true)
    (a18 : PySem.W.findIn K (.ref C5) "less" = some (some (.ref f18)))
    (i18 : PySem.W.isFn K (.ref f18) = true)
    (l18 : K.lookup f18 = some ⟨oc18, od18, .func (PySem.W.fnOf "less" "Rests.less" (defArgs t_18) (defBody t_18) (defScope t_18) .none kV18 dc18 pm18 an18 cd18 ct18), sl18⟩)
    (c18 : PySem.W.codeIn K cd18 "Rests.less" = true)
    (k18 : PySem.W.keepIn K (.ref f18) = true)
    (a19 : PySem.W.findIn K (.ref C5) "times" = some (some (.ref f19)))
    (i19 : PySem.W.isFn K (.ref f19) = true)
    (l19 : K.lookup f19 = some ⟨oc19, od19, .func (PySem.W.fnOf "times" "Rests.times" (defArgs t_19) (defBody t_19) (defScope t_19) .none kV19 dc19 pm19 an19 cd19 ct19), sl19⟩)
    (c19 : PySem.W.codeIn K cd19 "Rests.times" = true)
    (k19 : PySem.W.keepIn K (.ref f19) = true)
    (a20 : PySem.W.findIn K (.ref C5) "back" = some (some (.ref f20)))
    (i20 : PySem.W.isFn K (.ref f20) = true)
    (l20 : K.lookup f20 = some ⟨oc20, od20, .func (PySem.W.fnOf "back" "Rests.back" (defArgs t_20) (defBody t_20) (defScope t_20) .none kV20 dc20 pm20 an20 cd20 ct20), sl20⟩)
    (c20 : PySem.W.codeIn K cd20 "Rests.back" = true)
    (k20 : PySem.W.keepIn K (.ref f20) = true)
    (a21 : PySem.W.findIn K (.ref C5) "parted_by" = some (some (.ref f21)))
    (i21 : PySem.W.isFn K (.ref f21) = true)
    (l21 : K.lookup f21 = some ⟨oc21, od21, .func (PySem.W.fnOf "parted_by" "Rests.parted_by" (defArgs t_21) (defBody t_21) (defScope t_21) .none kV21 dc21 pm21 an21 cd21 ct21), sl21⟩)
    (c21 : PySem.W.codeIn K cd21 "Rests.parted_by" = true)
    (k21 : PySem.W.keepIn K (.ref f21) = true)
    (a22 : PySem.W.nsIn K mainGlobals "is_ring_of" = some (some (.ref f22)))
    (l22 : K.lookup f22 = some ⟨oc22, od22, .func (PySem.W.fnOf "is_ring_of" "is_ring_of" (defArgs t_22) (defBody t_22) (defScope t_22) .none kV22 dc22 pm22 an22 cd22 ct22), sl22⟩)
    (c22 : PySem.W.codeIn K cd22 "is_ring_of" = true)
    (k22 : PySem.W.keepIn K (.ref f22) = true)
    (a23 : PySem.W.nsIn K mainGlobals "reckoner" = some (some (.ref f23)))
    (l23 : K.lookup f23 = some ⟨oc23, od23, .func (PySem.W.fnOf "reckoner" "reckoner" (defArgs t_23) (defBody t_23) (defScope t_23) .none kV23 dc23 pm23 an23 cd23 ct23), sl23⟩)
    (c23 : PySem.W.codeIn K cd23 "reckoner" = true)
    (k23 : PySem.W.keepIn K (.ref f23) = true)
    (a24 : PySem.W.nsIn K mainGlobals "is_ring" = some (some (.ref f24)))
    (l24 : K.lookup f24 = some ⟨oc24, od24, .func (PySem.W.fnOf "is_ring" "is_ring" (defArgs t_24) (defBody t_24) (defScope t_24) .none kV24 dc24 pm24 an24 cd24 ct24), sl24⟩)
    (c24 : PySem.W.codeIn K cd24 "is_ring" = true)
    (k24 : PySem.W.keepIn K (.ref f24) = true)
    (a25 : PySem.W.nsIn K mainGlobals "need_ring" = some (some (.ref f25)))
    (l25 : K.lookup f25 = some ⟨oc25, od25, .func (PySem.W.fnOf "need_ring" "need_ring" (defArgs t_25) (defBody t_25) (defScope t_25) .none kV25 dc25 pm25 an25 cd25 ct25), sl25⟩)
    (c25 : PySem.W.codeIn K cd25 "need_ring" = true)
    (k25 : PySem.W.keepIn K (.ref f25) = true)
    (a26 : PySem.W.nsIn K mainGlobals "reckoner_of" = some (some (.ref f26)))
    (l26 : K.lookup f26 = some ⟨oc26, od26, .func (PySem.W.fnOf "reckoner_of" "reckoner_of" (defArgs t_26) (defBody t_26) (defScope t_26) .none kV26 dc26 pm26 an26 cd26 ct26), sl26⟩)
    (c26 : PySem.W.codeIn K cd26 "reckoner_of" = true)
    (k26 : PySem.W.keepIn K (.ref f26) = true)
    (a27 : PySem.W.nsIn K mainGlobals "need_element" = some (some (.ref f27)))
    (l27 : K.lookup f27 = some ⟨oc27, od27, .func (PySem.W.fnOf "need_element" "need_element" (defArgs t_27) (defBody t_27) (defScope t_27) .none kV27 dc27 pm27 an27 cd27 ct27), sl27⟩)
    (c27 : PySem.W.codeIn K cd27 "need_element" = true)
    (k27 : PySem.W.keepIn K (.ref f27) = true)
    (a28 : PySem.W.nsIn K mainGlobals "need_two" = some (some (.ref f28)))
    (l28 : K.lookup f28 = some ⟨oc28, od28, .func (PySem.W.fnOf "need_two" "need_two" (defArgs t_28) (defBody t_28) (defScope t_28) .none kV28 dc28 pm28 an28 cd28 ct28), sl28⟩)
    (c28 : PySem.W.codeIn K cd28 "need_two" = true)
    (k28 : PySem.W.keepIn K (.ref f28) = true)
    (a29 : PySem.W.nsIn K mainGlobals "is_element" = some (some (.ref f29)))
    (l29 : K.lookup f29 = some ⟨oc29, od29, .func (PySem.W.fnOf "is_element" "is_element" (defArgs t_29) (defBody t_29) (defScope t_29) .none kV29 dc29 pm29 an29 cd29 ct29), sl29⟩)
    (c29 : PySem.W.codeIn K cd29 "is_element" = true)
    (k29 : PySem.W.keepIn K (.ref f29) = true)
    (a30 : PySem.W.nsIn K mainGlobals "zero" = some (some (.ref f30)))
    (l30 : K.lookup f30 = some ⟨oc30, od30, .func (PySem.W.fnOf "zero" "zero" (defArgs t_30) (defBody t_30) (defScope t_30) .none kV30 dc30 pm30 an30 cd30 ct30), sl30⟩)
    (c30 : PySem.W.codeIn K cd30 "zero" = true)
    (k30 : PySem.W.keepIn K (.ref f30) = true)
    (a31 : PySem.W.nsIn K mainGlobals "unit" = some (some (.ref f31)))
    (l31 : K.lookup f31 = some ⟨oc31, od31, .func (PySem.W.fnOf "unit" "unit" (defArgs t_31) (defBody t_31) (defScope t_31) .none kV31 dc31 pm31 an31 cd31 ct31), sl31⟩)
    (c31 : PySem.W.codeIn K cd31 "unit" = true)
    (k31 : PySem.W.keepIn K (.ref f31) = true)
    (a32 : PySem.W.nsIn K mainGlobals "element_of" = some (some (.ref f32)))
    (l32 : K.lookup f32 = some ⟨oc32, od32, .func (PySem.W.fnOf "element_of" "element_of" (defArgs t_32) (defBody t_32) (defScope t_32) .none kV32 dc32 pm32 an32 cd32 ct32), sl32⟩)
    (c32 : PySem.W.codeIn K cd32 "element_of" = true)
    (k32 : PySem.W.keepIn K (.ref f32) = true)
    (a33 : PySem.W.nsIn K mainGlobals "need_some" = some (some (.ref f33)))
    (l33 : K.lookup f33 = some ⟨oc33, od33, .func (PySem.W.fnOf "need_some" "need_some" (defArgs t_33) (defBody t_33) (defScope t_33) .none kV33 dc33 pm33 an33 cd33 ct33), sl33⟩)
    (c33 : PySem.W.codeIn K cd33 "need_some" = true)
    (k33 : PySem.W.keepIn K (.ref f33) = true)
    (a34 : PySem.W.nsIn K mainGlobals "plus" = some (some (.ref f34)))
    (l34 : K.lookup f34 = some ⟨oc34, od34, .func (PySem.W.fnOf "plus" "plus" (defArgs t_34) (defBody t_34) (defScope t_34) .none kV34 dc34 pm34 an34 cd34 ct34), sl34⟩)
    (c34 : PySem.W.codeIn K cd34 "plus" = true)
    (k34 : PySem.W.keepIn K (.ref f34) = true)
    (a35 : PySem.W.nsIn K mainGlobals "less" = some (some (.ref f35)))
    (l35 : K.lookup f35 = some ⟨oc35, od35, .func (PySem.W.fnOf "less" "less" (defArgs t_35) (defBody t_35) (defScope t_35) .none kV35 dc35 pm35 an35 cd35 ct35), sl35⟩)
    (c35 : PySem.W.codeIn K cd35 "less" = true)
    (k35 : PySem.W.keepIn K (.ref f35) = true)
    (a36 : PySem.W.nsIn K mainGlobals "times" = some (some (.ref f36)))
    (l36 : K.lookup f36 = some ⟨oc36, od36, .func (PySem.W.fnOf "times" "times" (defArgs t_36) (defBody t_36) (defScope t_36) .none kV36 dc36 pm36 an36 cd36 ct36), sl36⟩)
    (c36 : PySem.W.codeIn K cd36 "times" = true)
    (k36 : PySem.W.keepIn K (.ref f36) = true)
    (a37 : PySem.W.nsIn K mainGlobals "power" = some (some (.ref f37)))
    (l37 : K.lookup f37 = some ⟨oc37, od37, .func (PySem.W.fnOf "power" "power" (defArgs t_37) (defBody t_37) (defScope t_37) .none kV37 dc37 pm37 an37 cd37 ct37), sl37⟩)
    (c37 : PySem.W.codeIn K cd37 "power" = true)
    (k37 : PySem.W.keepIn K (.ref f37) = true)
    (a38 : PySem.W.nsIn K mainGlobals "divided" = some (some (.ref f38)))
    (l38 : K.lookup f38 = some ⟨oc38, od38, .func (PySem.W.fnOf "divided" "divided" (defArgs t_38) (defBody t_38) (defScope t_38) .none kV38 dc38 pm38 an38 cd38 ct38), sl38⟩)
    (c38 : PySem.W.codeIn K cd38 "divided" = true)
    (k38 : PySem.W.keepIn K (.ref f38) = true)
    (a39 : PySem.W.nsIn K mainGlobals "divides" = some (some (.ref f39)))
    (l39 : K.lookup f39 = some ⟨oc39, od39, .func (PySem.W.fnOf "divides" "divides" (defArgs t_39) (defBody t_39) (defScope t_39) .none kV39 dc39 pm39 an39 cd39 ct39), sl39⟩)
    (c39 : PySem.W.codeIn K cd39 "divides" = true)
    (k39 : PySem.W.keepIn K (.ref f39) = true)
    (a40 : PySem.W.nsIn K mainGlobals "_law_spring" = some (some (.ref f40)))
    (l40 : K.lookup f40 = some ⟨oc40, od40, .func (PySem.W.fnOf "_law_spring" "_law_spring" (defArgs t_40) (defBody t_40) (defScope t_40) .none kV40 dc40 pm40 an40 cd40 ct40), sl40⟩)
    (c40 : PySem.W.codeIn K cd40 "_law_spring" = true)
    (k40 : PySem.W.keepIn K (.ref f40) = true)
    (a41 : PySem.W.nsIn K mainGlobals "_law_take" = some (some (.ref f41)))
    (l41 : K.lookup f41 = some ⟨oc41, od41, .func (PySem.W.fnOf "_law_take" "_law_take" (defArgs t_41) (defBody t_41) (defScope t_41) .none kV41 dc41 pm41 an41 cd41 ct41), sl41⟩)
    (c41 : PySem.W.codeIn K cd41 "_law_take" = true)
    (k41 : PySem.W.keepIn K (.ref f41) = true)
    (a42 : PySem.W.nsIn K mainGlobals "_law_ring" = some (some (.ref f42)))
    (l42 : K.lookup f42 = some ⟨oc42, od42, .func (PySem.W.fnOf "_law_ring" "_law_ring" (defArgs t_42) (defBody t_42) (defScope t_42) .none kV42 dc42 pm42 an42 cd42 ct42), sl42⟩)
    (c42 : PySem.W.codeIn K cd42 "_law_ring" = true)
    (k42 : PySem.W.keepIn K (.ref f42) = true)
    (a43 : PySem.W.nsIn K mainGlobals "_law_cut" = some (some (.ref f43)))
    (l43 : K.lookup f43 = some ⟨oc43, od43, .func (PySem.W.fnOf "_law_cut" "_law_cut" (defArgs t_43) (defBody t_43) (defScope t_43) .none kV43 dc43 pm43 an43 cd43 ct43), sl43⟩)
    (c43 : PySem.W.codeIn K cd43 "_law_cut" = true)
    (k43 : PySem.W.keepIn K (.ref f43) = true)
    (a44 : PySem.W.nsIn K mainGlobals "_law_plus" = some (some (.ref f44)))
    (l44 : K.lookup f44 = some ⟨oc44, od44, .func (PySem.W.fnOf "_law_plus" "_law_plus" (defArgs t_44) (defBody t_44) (defScope t_44) .none kV44 dc44 pm44 an44 cd44 ct44), sl44⟩)
    (c44 : PySem.W.codeIn K cd44 "_law_plus" = true)
    (k44 : PySem.W.keepIn K (.ref f44) = true)
    (a45 : PySem.W.nsIn K mainGlobals "_law_times" = some (some (.ref f45)))
    (l45 : K.lookup f45 = some ⟨oc45, od45, .func (PySem.W.fnOf "_law_times" "_law_times" (defArgs t_45) (defBody t_45) (defScope t_45) .none kV45 dc45 pm45 an45 cd45 ct45), sl45⟩)
    (c45 : PySem.W.codeIn K cd45 "_law_times" = true)
    (k45 : PySem.W.keepIn K (.ref f45) = true)
    (a46 : PySem.W.nsIn K mainGlobals "_law_neg" = some (some (.ref f46)))
    (l46 : K.lookup f46 = some ⟨oc46, od46, .func (PySem.W.fnOf "_law_neg" "_law_neg" (defArgs t_46) (defBody t_46) (defScope t_46) .none kV46 dc46 pm46 an46 cd46 ct46), sl46⟩)
    (c46 : PySem.W.codeIn K cd46 "_law_neg" = true)
    (k46 : PySem.W.keepIn K (.ref f46) = true)
    (a47 : PySem.W.nsIn K mainGlobals "_law_zero" = some (some (.ref f47)))
    (l47 : K.lookup f47 = some ⟨oc47, od47, .func (PySem.W.fnOf "_law_zero" "_law_zero" (defArgs t_47) (defBody t_47) (defScope t_47) .none kV47 dc47 pm47 an47 cd47 ct47), sl47⟩)
    (c47 : PySem.W.codeIn K cd47 "_law_zero" = true)
    (k47 : PySem.W.keepIn K (.ref f47) = true)
    (a48 : PySem.W.nsIn K mainGlobals "_law_unit" = some (some (.ref f48)))
    (l48 : K.lookup f48 = some ⟨oc48, od48, .func (PySem.W.fnOf "_law_unit" "_law_unit" (defArgs t_48) (defBody t_48) (defScope t_48) .none kV48 dc48 pm48 an48 cd48 ct48), sl48⟩)
    (c48 : PySem.W.codeIn K cd48 "_law_unit" = true)
    (k48 : PySem.W.keepIn K (.ref f48) = true)
    (a49 : PySem.W.nsIn K mainGlobals "_law_element" = some (some (.ref f49)))
    (l49 : K.lookup f49 = some ⟨oc49, od49, .func (PySem.W.fnOf "_law_element" "_law_element" (defArgs t_49) (defBody t_49) (defScope t_49) .none kV49 dc49 pm49 an49 cd49 ct49), sl49⟩)
    (c49 : PySem.W.codeIn K cd49 "_law_element" = true)
    (k49 : PySem.W.keepIn K (.ref f49) = true)
    (a50 : PySem.W.nsIn K mainGlobals "_law_is_element" = some (some (.ref f50)))
    (l50 : K.lookup f50 = some ⟨oc50, od50, .func (PySem.W.fnOf "_law_is_element" "_law_is_element" (defArgs t_50) (defBody t_50) (defScope t_50) .none kV50 dc50 pm50 an50 cd50 ct50), sl50⟩)
    (c50 : PySem.W.codeIn K cd50 "_law_is_element" = true)
    (k50 : PySem.W.keepIn K (.ref f50) = true)
    (a51 : PySem.W.nsIn K mainGlobals "_law_is_rest" = some (some (.ref f51)))
    (l51 : K.lookup f51 = some ⟨oc51, od51, .func (PySem.W.fnOf "_law_is_rest" "_law_is_rest" (defArgs t_51) (defBody t_51) (defScope t_51) .none kV51 dc51 pm51 an51 cd51 ct51), sl51⟩)
    (c51 : PySem.W.codeIn K cd51 "_law_is_rest" = true)
    (k51 : PySem.W.keepIn K (.ref f51) = true)
    (a52 : PySem.W.nsIn K mainGlobals "_law_caught" = some (some (.ref f52)))
    (l52 : K.lookup f52 = some ⟨oc52, od52, .func (PySem.W.fnOf "_law_caught" "_law_caught" (defArgs t_52) (defBody t_52) (defScope t_52) .none kV52 dc52 pm52 an52 cd52 ct52), sl52⟩)
    (c52 : PySem.W.codeIn K cd52 "_law_caught" = true)
    (k52 : PySem.W.keepIn K (.ref f52) = true)
    (a53 : PySem.W.nsIn K mainGlobals "_law_refused" = some (some (.ref f53)))
    (l53 : K.lookup f53 = some ⟨oc53, od53, .func (PySem.W.fnOf "_law_refused" "_law_refused" (defArgs t_53) (defBody t_53) (defScope t_53) .none kV53 dc53 pm53 an53 cd53 ct53), sl53⟩)
    (c53 : PySem.W.codeIn K cd53 "_law_refused" = true)
    (k53 : PySem.W.keepIn K (.ref f53) = true)
    (a54 : PySem.W.nsIn K mainGlobals "_law_right" = some (some (.ref f54)))
    (l54 : K.lookup f54 = some ⟨oc54, od54, .func (PySem.W.fnOf "_law_right" "_law_right" (defArgs t_54) (defBody t_54) (defScope t_54) .none kV54 dc54 pm54 an54 cd54 ct54), sl54⟩)
    (c54 : PySem.W.codeIn K cd54 "_law_right" = true)
    (k54 : PySem.W.keepIn K (.ref f54) = true)
    (a55 : PySem.W.nsIn K mainGlobals "law" = some (some (.ref f55)))
    (l55 : K.lookup f55 = some ⟨oc55, od55, .func (PySem.W.fnOf "law" "law" (defArgs t_55) (defBody t_55) (defScope t_55) .none kV55 dc55 pm55 an55 cd55 ct55), sl55⟩)
    (c55 : PySem.W.codeIn K cd55 "law" = true)
    (k55 : PySem.W.keepIn K (.ref f55) = true)
    (z_abs : PySem.W.nsIn K mainGlobals "abs" = some none)
    (z_all : PySem.W.nsIn K mainGlobals "all" = some none)
    (z_bool : PySem.W.nsIn K mainGlobals "bool" = some none)
    (z_enumerate : PySem.W.nsIn K mainGlobals "enumerate" = some none)
    (z_int : PySem.W.nsIn K mainGlobals "int" = some none)
    (z_isinstance : PySem.W.nsIn K mainGlobals "isinstance" = some none)
    (z_len : PySem.W.nsIn K mainGlobals "len" = some none)
    (z_list : PySem.W.nsIn K mainGlobals "list" = some none)
    (z_max : PySem.W.nsIn K mainGlobals "max" = some none)
    (z_min : PySem.W.nsIn K mainGlobals "min" = some none)
    (z_range : PySem.W.nsIn K mainGlobals "range" = some none)
    (z_repr : PySem.W.nsIn K mainGlobals "repr" = some none)
    (z_str : PySem.W.nsIn K mainGlobals "str" = some none)
    (z_super : PySem.W.nsIn K mainGlobals "super" = some none)
    (z_tuple : PySem.W.nsIn K mainGlobals "tuple" = some none)
    (z_zip : PySem.W.nsIn K mainGlobals "zip" = some none)
    (pg4 : PySem.W.plainGet K C4 Str.empty = true)
    (hd4 : PySem.W.hasDictIn K C4 = true)
    (po4 : PySem.W.plainOver K C4 = true)
    (sa4 : PySem.W.findIn K (.ref C4) "__setattr__" = some (some (.builtin "object.__setattr__")))
    (mk4 : PySem.W.makesIn K C4 = true)
    (kc4 : PySem.W.keepIn K (.ref C4) = true)
    (n4_1 : PySem.W.findIn K (.ref C4) "zero" = some none)
    (n4_2 : PySem.W.findIn K (.ref C4) "one" = some none)
    (pg5 : PySem.W.plainGet K C5 Str.empty = true)
    (hd5 : PySem.W.hasDictIn K C5 = true)
    (po5 : PySem.W.plainOver K C5 = true)
    (sa5 : PySem.W.findIn K (.ref C5) "__setattr__" = some (some (.builtin "object.__setattr__")))
    (mk5 : PySem.W.makesIn K C5 = true)
    (kc5 : PySem.W.keepIn K (.ref C5) = true)
    (n5_3 : PySem.W.findIn K (.ref C5) "p" = some none)
    (n5_1 : PySem.W.findIn K (.ref C5) "zero" = some none)
    (n5_2 : PySem.W.findIn K (.ref C5) "one" = some none)
    (iI : PySem.W.findIn K (.ref C0) "__init__" = some (some (.ref fI)))
    (tI : PySem.W.typeIn K (.ref fI) = some (.type "function"))
    (lI : K.lookup fI = some ⟨ocI, odI, .func (PySem.W.ksFn "__init__" "SayingError.__init__" (DpX.eArgs ⟨7, 17, 7, 21⟩ ⟨7, 23, 7, 28⟩) (DpX.eBody "sayingsofsums" 0 ⟨8, 8, 8, 13⟩ ⟨8, 8, 8, 15⟩ ⟨8, 8, 8, 24⟩ ⟨8, 25, 8, 40⟩ ⟨8, 8, 8, 41⟩ ⟨8, 8, 8, 41⟩ ⟨9, 8, 9, 12⟩ ⟨9, 8, 9, 18⟩ ⟨9, 21, 9, 26⟩ ⟨9, 8, 9, 26⟩) DpX.eScope .none .none dcI pmI anI (.ref cdaI) ctI ccI), slI⟩)
    (cI : PySem.W.codeIn K (.ref cdaI) "SayingError.__init__" = true)
    (coI : K.lookup cdaI = some ⟨cclI, cddI, .fields vsI, ccsI⟩)
    (ceI : K.lookup ccI = some ⟨clI, cldI, .cell (some (.ref C0)), cslI⟩)
    (stI : PySem.W.nsIn K cStatics "thirdparty.any" = some none)
    (vI : vsI[2]? = some (.str fileI tfI))
    (flI : ((P.main.file : Str) == fileI) = true)
    (tpI : (P.main.scope.names.lookup ("super" : Str)).isSome = false)
    (xL0 : K.lookup C0 = some (excClassObj nm0 q0 C0 N0 bs0 [.type "ValueError", .type "Exception", .type "BaseException", .type "object"] true sn0 sub0 ab0 co0 dd0 x0_0 x1_0 x2_0 x3_0 x5_0 "ValueError.__new__"))
    (sa0 : PySem.W.findIn K (.ref C0) "__setattr__" = some (some (.builtin "object.__setattr__")))
    (nv0 : PySem.W.findIn K (.ref C0) "value" = some none)
    (vE0 : PySem.W.subIn K (.ref C0) (.type "ValueError") = some true)
    (bl0 : PySem.W.mroIn K C0 (.ref C0) = some true)
    (su0 : PySem.W.ks_superIn K C0 C0 "__init__" = some (some (.builtin "ValueError.__init__")))
    (kc0 : PySem.W.keepIn K (.ref C0) = true)
    (sb0 : PySem.W.subIn K (.ref C0) (.type "BaseException") = some true)
    (ty0 : PySem.W.typeIn K (.ref C0) = some (.type "type"))
    (ga0 : PySem.W.findIn K (.ref C0) "__getattribute__" = some (some (.builtin "BaseException.__getattribute__")))
    (gg0 : PySem.W.findIn K (.ref C0) "__getattr__" = some none)
    (hd0 : PySem.W.hasDictIn K C0 = true)
    (cc0 : PySem.W.findIn K (.ref C0) "__class__" = some (some (.builtin "object.__class__")))
    (mo0 : PySem.W.mroIn K C0 (.type "object") = some true)
    (xL1 : K.lookup C1 = some (excClassObj nm1 q1 C1 N1 bs1 [.ref C0, .type "ValueError", .type "Exception", .type "BaseException", .type "object"] true sn1 sub1 ab1 co1 dd1 x0_1 x1_1 x2_1 x3_1 x5_1 "ValueError.__new__"))
    (sa1 : PySem.W.findIn K (.ref C1) "__setattr__" = some (some (.builtin "object.__setattr__")))
    (nv1 : PySem.W.findIn K (.ref C1) "value" = some none)
    (iI1 : PySem.W.findIn K (.ref C1) "__init__" = some (some (.ref fI)))
    (vE1 : PySem.W.subIn K (.ref C1) (.type "ValueError") = some true)
    (bl1 : PySem.W.mroIn K C1 (.ref C0) = some true)
    (su1 : PySem.W.ks_superIn K C1 C0 "__init__" = some (some (.builtin "ValueError.__init__")))
    (kc1 : PySem.W.keepIn K (.ref C1) = true)
    (sb1 : PySem.W.subIn K (.ref C1) (.type "BaseException") = some true)
    (ty1 : PySem.W.typeIn K (.ref C1) = some (.type "type"))
    (ga1 : PySem.W.findIn K (.ref C1) "__getattribute__" = some (some (.builtin "BaseException.__getattribute__")))
    (gg1 : PySem.W.findIn K (.ref C1) "__getattr__" = some none)
    (hd1 : PySem.W.hasDictIn K C1 = true)
    (cc1 : PySem.W.findIn K (.ref C1) "__class__" = some (some (.builtin "object.__class__")))
    (mo1 : PySem.W.mroIn K C1 (.type "object") = some true)
    (xL2 : K.lookup C2 = some (excClassObj nm2 q2 C2 N2 bs2 [.ref C0, .type "ValueError", .type "Exception", .type "BaseException", .type "object"] true sn2 sub2 ab2 co2 dd2 x0_2 x1_2 x2_2 x3_2 x5_2 "ValueError.__new__"))
    (sa2 : PySem.W.findIn K (.ref C2) "__setattr__" = some (some (.builtin "object.__setattr__")))
    (nv2 : PySem.W.findIn K (.ref C2) "value" = some none)
    (iI2 : PySem.W.findIn K (.ref C2) "__init__" = some (some (.ref fI)))
    (vE2 : PySem.W.subIn K (.ref C2) (.type "ValueError") = some true)
    (bl2 : PySem.W.mroIn K C2 (.ref C0) = some true)
    (su2 : PySem.W.ks_superIn K C2 C0 "__init__" = some (some (.builtin "ValueError.__init__")))
    (kc2 : PySem.W.keepIn K (.ref C2) = true)
    (sb2 : PySem.W.subIn K (.ref C2) (.type "BaseException") = some true)
    (ty2 : PySem.W.typeIn K (.ref C2) = some (.type "type"))
    (ga2 : PySem.W.findIn K (.ref C2) "__getattribute__" = some (some (.builtin "BaseException.__getattribute__")))
    (gg2 : PySem.W.findIn K (.ref C2) "__getattr__" = some none)
    (hd2 : PySem.W.hasDictIn K C2 = true)
    (cc2 : PySem.W.findIn K (.ref C2) "__class__" = some (some (.builtin "object.__class__")))
    (mo2 : PySem.W.mroIn K C2 (.type "object") = some true)
    (xL3 : K.lookup C3 = some (excClassObj nm3 q3 C3 N3 bs3 [.ref C0, .type "ValueError", .type "Exception", .type "BaseException", .type "object"] true sn3 sub3 ab3 co3 dd3 x0_3 x1_3 x2_3 x3_3 x5_3 "ValueError.__new__"))
    (sa3 : PySem.W.findIn K (.ref C3) "__setattr__" = some (some (.builtin "object.__setattr__")))
    (nv3 : PySem.W.findIn K (.ref C3) "value" = some none)
    (iI3 : PySem.W.findIn K (.ref C3) "__init__" = some (some (.ref fI)))
    (vE3 : PySem.W.subIn K (.ref C3) (.type "ValueError") = some true)
    (bl3 : PySem.W.mroIn K C3 (.ref C0) = some true)
    (su3 : PySem.W.ks_superIn K C3 C0 "__init__" = some (some (.builtin "ValueError.__init__")))
    (kc3 : PySem.W.keepIn K (.ref C3) = true)
    (sb3 : PySem.W.subIn K (.ref C3) (.type "BaseException") = some true)
    (ty3 : PySem.W.typeIn K (.ref C3) = some (.type "type"))
    (ga3 : PySem.W.findIn K (.ref C3) "__getattribute__" = some (some (.builtin "BaseException.__getattribute__")))
    (gg3 : PySem.W.findIn K (.ref C3) "__getattr__" = some none)
    (hd3 : PySem.W.hasDictIn K C3 = true)
    (cc3 : PySem.W.findIn K (.ref C3) "__class__" = some (some (.builtin "object.__class__")))
    (mo3 : PySem.W.mroIn K C3 (.type "object") = some true)
    (spI : PySem.W.specialIn K (.builtin "object.__class__") "__get__" = some (some (.builtin "getset_descriptor.__get__")))
    (tkI : PySem.W.takesIn K (.builtin "object.__class__") = some true)
    (s0_0 : PySem.W.subIn K (.ref C0) (.ref C0) = some true)
    (s0_1 : PySem.W.subIn K (.ref C0) (.ref C1) = some false)
    (ne0_1 : (Value.ref C0 == Value.ref C1) = false)
    (s0_2 : PySem.W.subIn K (.ref C0) (.ref C2) = some false)
    (ne0_2 : (Value.ref C0 == Value.ref C2) = false)
    (s0_3 : PySem.W.subIn K (.ref C0) (.ref C3) = some false)
    (ne0_3 : (Value.ref C0 == Value.ref C3) = false)
    (s1_0 : PySem.W.subIn K (.ref C1) (.ref C0) = some true)
    (s1_1 : PySem.W.subIn K (.ref C1) (.ref C1) = some true)
    (s1_2 : PySem.W.subIn K (.ref C1) (.ref C2) = some false)
    (ne1_2 : (Value.ref C1 == Value.ref C2) = false)
    (s1_3 : PySem.W.subIn K (.ref C1) (.ref C3) = some false)
    (ne1_3 : (Value.ref C1 == Value.ref C3) = false)
    (s2_0 : PySem.W.subIn K (.ref C2) (.ref C0) = some true)
    (s2_1 : PySem.W.subIn K (.ref C2) (.ref C1) = some false)
    (ne2_1 : (Value.ref C2 == Value.ref C1) = false)
    (s2_2 : PySem.W.subIn K (.ref C2) (.ref C2) = some true)
    (s2_3 : PySem.W.subIn K (.ref C2) (.ref C3) = some false)
    (ne2_3 : (Value.ref C2 == Value.ref C3) = false)
    (s3_0 : PySem.W.subIn K (.ref C3) (.ref C0) = some true)
    (s3_1 : PySem.W.subIn K (.ref C3) (.ref C1) = some false)
    (ne3_1 : (Value.ref C3 == Value.ref C1) = false)
    (s3_2 : PySem.W.subIn K (.ref C3) (.ref C2) = some false)
    (ne3_2 : (Value.ref C3 == Value.ref C2) = false)
    (s3_3 : PySem.W.subIn K (.ref C3) (.ref C3) = some true)
    (q_BY : PySem.W.nsIn K mainGlobals "BY" = some (some (.str "by" tk_BY)))
    (q_MOST_POWER : PySem.W.nsIn K mainGlobals "MOST_POWER" = some (some (.int 40 tk_MOST_POWER)))
    (q_PRIMES : PySem.W.nsIn K mainGlobals "PRIMES" = some (some (.ref ad_PRIMES)))
    (r_PRIMES : K.lookup ad_PRIMES = some ⟨.type "tuple", od_PRIMES, .seq #[.int 2 tk_PRIMES_0, .int 3 tk_PRIMES_1, .int 5 tk_PRIMES_2] nn_PRIMES, ss_PRIMES⟩)
    (q_WHOLE : PySem.W.nsIn K mainGlobals "WHOLE" = some (some (.ref ad_WHOLE)))
    (r_WHOLE : K.lookup ad_WHOLE = some ⟨.type "tuple", od_WHOLE, .seq #[.str "whole" tk_WHOLE_0] nn_WHOLE, ss_WHOLE⟩)
    : ∃ (fd : FuncData) (Gg : Gx), Gg.K = K ∧ (∀ (s : Shared) (u : Value), BindsTo s fd ⟨[u], []⟩ [("script", u)]) ∧ ∀ base : Heap, K.In base → base.Ns mainGlobals mg → FnD P w K mg base Gg (callP pr 40) (2 * 40) 55 fa fd ["script"] := by
  have e := hfa.symm.trans (PySem.W.mg_of X G a55)
  have e2 : fa = f55 := Value.ref.inj (Option.some.inj e)
  clear e
  have T : Tx P K mg ⟨f0, (PySem.W.fnOf "is_integer" "is_integer" (defArgs t_0) (defBody t_0) (defScope t_0) .none kV0 dc0 pm0 an0 cd0 ct0), f1, (PySem.W.fnOf "is_between" "is_between" (defArgs t_1) (defBody t_1) (defScope t_1) .none kV1 dc1 pm1 an1 cd1 ct1), f2, (PySem.W.fnOf "need_number" "need_number" (defArgs t_2) (defBody t_2) (defScope t_2) .none kV2 dc2 pm2 an2 cd2 ct2), f3, (PySem.W.fnOf "anew" "anew" (defArgs t_3) (defBody t_3) (defScope t_3) .none kV3 dc3 pm3 an3 cd3 ct3), f4, (PySem.W.fnOf "is_multiple" "is_multiple" (defArgs t_4) (defBody t_4) (defScope t_4) .none kV4 dc4 pm4 an4 cd4 ct4), f5, (PySem.W.fnOf "raised" "raised" (defArgs t_5) (defBody t_5) (defScope t_5) .none kV5 dc5 pm5 an5 cd5 ct5), f6, (PySem.W.fnOf "__init__" "Whole.__init__" (defArgs t_6) (defBody t_6) (defScope t_6) .none kV6 dc6 pm6 an6 cd6 ct6), f7, (PySem.W.fnOf "has" "Whole.has" (defArgs t_7) (defBody t_7) (defScope t_7) .none kV7 dc7 pm7 an7 cd7 ct7), f8, (PySem.W.fnOf "of_integer" "Whole.of_integer" (defArgs t_8) (defBody t_8) (defScope t_8) .none kV8 dc8 pm8 an8 cd8 ct8), f9, (PySem.W.fnOf "plus" "Whole.plus" (defArgs t_9) (defBody t_9) (defScope t_9) .none kV9 dc9 pm9 an9 cd9 ct9), f10, (PySem.W.fnOf "less" "Whole.less" (defArgs t_10) (defBody t_10) (defScope t_10) .none kV10 dc10 pm10 an10 cd10 ct10), f11, (PySem.W.fnOf "times" "Whole.times" (defArgs t_11) (defBody t_11) (defScope t_11) .none kV11 dc11 pm11 an11 cd11 ct11), f12, (PySem.W.fnOf "parted_by" "Whole.parted_by" (defArgs t_12) (defBody t_12) (defScope t_12) .none kV12 dc12 pm12 an12 cd12 ct12), f13, (PySem.W.fnOf "__init__" "Rests.__init__" (defArgs t_13) (defBody t_13) (defScope t_13) .none kV13 dc13 pm13 an13 cd13 ct13), f14, (PySem.W.fnOf "has" "Rests.has" (defArgs t_14) (defBody t_14) (defScope t_14) .none kV14 dc14 pm14 an14 cd14 ct14), f15, (PySem.W.fnOf "trimmed" "Rests.trimmed" (defArgs t_15) (defBody t_15) (defScope t_15) .none kV15 dc15 pm15 an15 cd15 ct15), f16, (PySem.W.fnOf "of_integer" "Rests.of_integer" (defArgs t_16) (defBody t_16) (defScope t_16) .none kV16 dc16 pm16 an16 cd16 ct16), f17, (PySem.W.fnOf "plus" "Rests.plus" (defArgs t_17) (defBody t_17) (defScope t_17) .none kV17 dc17 pm17 an17 cd17 ct17), f18, (PySem.W.fnOf "less" "Rests.less" (defArgs t_18) (defBody t_18) (defScope t_18) .none kV18 dc18 pm18 an18 cd18 ct18), f19, (PySem.W.fnOf "times" "Rests.times" (defArgs t_19) (defBody t_19) (defScope t_19) .none kV19 dc19 pm19 an19 cd19 ct19), f20, (PySem.W.fnOf "back" "Rests.back" (defArgs t_20) (defBody t_20) (defScope t_20) .none kV20 dc20 pm20 an20 cd20 ct20), f21, (PySem.W.fnOf "parted_by" "Rests.parted_by" (defArgs t_21) (defBody t_21) (defScope t_21) .none kV21 dc21 pm21 an21 cd21 ct21), f22, (PySem.W.fnOf "is_ring_of" "is_ring_of" (defArgs t_22) (defBody t_22) (defScope t_22) .none kV22 dc22 pm22 an22 cd22 ct22), f23, (PySem.W.fnOf "reckoner" "reckoner" (defArgs t_23) (defBody t_23) (defScope t_23) .none kV23 dc23 pm23 an23 cd23 ct23), f24, (PySem.W.fnOf "is_ring" "is_ring" (defArgs t_24) (defBody t_24) (defScope t_24) .none kV24 dc24 pm24 an24 cd24 ct24), f25, (PySem.W.fnOf "need_ring" "need_ring" (defArgs t_25) (defBody t_25) (defScope t_25) .none kV25 dc25 pm25 an25 cd25 ct25), f26, (PySem.W.fnOf "reckoner_of" "reckoner_of" (defArgs t_26) (defBody t_26) (defScope t_26) .none kV26 dc26 pm26 an26 cd26 ct26), f27, (PySem.W.fnOf "need_element" "need_element" (defArgs t_27) (defBody t_27) (defScope t_27) .none kV27 dc27 pm27 an27 cd27 ct27), f28, (PySem.W.fnOf "need_two" "need_two" (defArgs t_28) (defBody t_28) (defScope t_28) .none kV28 dc28 pm28 an28 cd28 ct28), f29, (PySem.W.fnOf "is_element" "is_element" (defArgs t_29) (defBody t_29) (defScope t_29) .none kV29 dc29 pm29 an29 cd29 ct29), f30, (PySem.W.fnOf "zero" "zero" (defArgs t_30) (defBody t_30) (defScope t_30) .none kV30 dc30 pm30 an30 cd30 ct30), f31, (PySem.W.fnOf "unit" "unit" (defArgs t_31) (defBody t_31) (defScope t_31) .none kV31 dc31 pm31 an31 cd31 ct31), f32, (PySem.W.fnOf "element_of" "element_of" (defArgs t_32) (defBody t_32) (defScope t_32) .none kV32 dc32 pm32 an32 cd32 ct32), f33, (PySem.W.fnOf "need_some" "need_some" (defArgs t_33) (defBody t_33) (defScope t_33) .none kV33 dc33 pm33 an33 cd33 ct33), f34, (PySem.W.fnOf "plus" "plus" (defArgs t_34) (defBody t_34) (defScope t_34) .none kV34 dc34 pm34 an34 cd34 ct34), f35, (PySem.W.fnOf "less" "less" (defArgs t_35) (defBody t_35) (defScope t_35) .none kV35 dc35 pm35 an35 cd35 ct35), f36, (PySem.W.fnOf "times" "times" (defArgs t_36) (defBody t_36) (defScope t_36) .none kV36 dc36 pm36 an36 cd36 ct36), f37, (PySem.W.fnOf "power" "power" (defArgs t_37) (defBody t_37) (defScope t_37) .none kV37 dc37 pm37 an37 cd37 ct37), f38, (PySem.W.fnOf "divided" "divided" (defArgs t_38) (defBody t_38) (defScope t_38) .none kV38 dc38 pm38 an38 cd38 ct38), f39, (PySem.W.fnOf "divides" "divides" (defArgs t_39) (defBody t_39) (defScope t_39) .none kV39 dc39 pm39 an39 cd39 ct39), f40, (PySem.W.fnOf "_law_spring" "_law_spring" (defArgs t_40) (defBody t_40) (defScope t_40) .none kV40 dc40 pm40 an40 cd40 ct40), f41, (PySem.W.fnOf "_law_take" "_law_take" (defArgs t_41) (defBody t_41) (defScope t_41) .none kV41 dc41 pm41 an41 cd41 ct41), f42, (PySem.W.fnOf "_law_ring" "_law_ring" (defArgs t_42) (defBody t_42) (defScope t_42) .none kV42 dc42 pm42 an42 cd42 ct42), f43, (PySem.W.fnOf "_law_cut" "_law_cut" (defArgs t_43) (defBody t_43) (defScope t_43) .none kV43 dc43 pm43 an43 cd43 ct43), f44, (PySem.W.fnOf "_law_plus" "_law_plus" (defArgs t_44) (defBody t_44) (defScope t_44) .none kV44 dc44 pm44 an44 cd44 ct44), f45, (PySem.W.fnOf "_law_times" "_law_times" (defArgs t_45) (defBody t_45) (defScope t_45) .none kV45 dc45 pm45 an45 cd45 ct45), f46, (PySem.W.fnOf "_law_neg" "_law_neg" (defArgs t_46) (defBody t_46) (defScope t_46) .none kV46 dc46 pm46 an46 cd46 ct46), f47, (PySem.W.fnOf "_law_zero" "_law_zero" (defArgs t_47) (defBody t_47) (defScope t_47) .none kV47 dc47 pm47 an47 cd47 ct47), f48, (PySem.W.fnOf "_law_unit" "_law_unit" (defArgs t_48) (defBody t_48) (defScope t_48) .none kV48 dc48 pm48 an48 cd48 ct48), f49, (PySem.W.fnOf "_law_element" "_law_element" (defArgs t_49) (defBody t_49) (defScope t_49) .none kV49 dc49 pm49 an49 cd49 ct49), f50, (PySem.W.fnOf "_law_is_element" "_law_is_element" (defArgs t_50) (defBody t_50) (defScope t_50) .none kV50 dc50 pm50 an50 cd50 ct50), f51, (PySem.W.fnOf "_law_is_rest" "_law_is_rest" (defArgs t_51) (defBody t_51) (defScope t_51) .none kV51 dc51 pm51 an51 cd51 ct51), f52, (PySem.W.fnOf "_law_caught" "_law_caught" (defArgs t_52) (defBody t_52) (defScope t_52) .none kV52 dc52 pm52 an52 cd52 ct52), f53, (PySem.W.fnOf "_law_refused" "_law_refused" (defArgs t_53) (defBody t_53) (defScope t_53) .none kV53 dc53 pm53 an53 cd53 ct53), f54, (PySem.W.fnOf "_law_right" "_law_right" (defArgs t_54) (defBody t_54) (defScope t_54) .none kV54 dc54 pm54 an54 cd54 ct54), f55, (PySem.W.fnOf "law" "law" (defArgs t_55) (defBody t_55) (defScope t_55) .none kV55 dc55 pm55 an55 cd55 ct55), (fun i => List.getD [C0, C1, C2, C3, C4, C5] i C0)⟩ fI :=
    { z_abs := PySem.W.mg_none_of X G z_abs,
      z_all := PySem.W.mg_none_of X G z_all,
      z_bool := PySem.W.mg_none_of X G z_bool,
      z_enumerate := PySem.W.mg_none_of X G z_enumerate,
      z_int := PySem.W.mg_none_of X G z_int,
      z_isinstance := PySem.W.mg_none_of X G z_isinstance,
      z_len := PySem.W.mg_none_of X G z_len,
      z_list := PySem.W.mg_none_of X G z_list,
      z_max := PySem.W.mg_none_of X G z_max,
      z_min := PySem.W.mg_none_of X G z_min,
      z_range := PySem.W.mg_none_of X G z_range,
      z_repr := PySem.W.mg_none_of X G z_repr,
      z_str := PySem.W.mg_none_of X G z_str,
      z_super := PySem.W.mg_none_of X G z_super,
      z_tuple := PySem.W.mg_none_of X G z_tuple,
      z_zip := PySem.W.mg_none_of X G z_zip,
      F_0 := fun_mk (st := t_0) l0 c0 k0,
      kp_0 := k0,
      b_0 := fun us hl => match us, hl with | [_], _ => rfl,
      g_0 := PySem.W.mg_of X G a0,
      F_1 := fun_mk (st := t_1) l1 c1 k1,
      kp_1 := k1,
      b_1 := fun us hl => match us, hl with | [_, _, _], _ => rfl,
      g_1 := PySem.W.mg_of X G a1,
      F_2 := fun_mk (st := t_2) l2 c2 k2,
      kp_2 := k2,
      b_2 := fun us hl => match us, hl with | [_, _, _], _ => rfl,
      g_2 := PySem.W.mg_of X G a2,
      F_3 := fun_mk (st := t_3) l3 c3 k3,
      kp_3 := k3,
      b_3 := fun us hl => match us, hl with | [_], _ => rfl,
      g_3 := PySem.W.mg_of X G a3,
      F_4 := fun_mk (st := t_4) l4 c4 k4,
      kp_4 := k4,
      b_4 := fun us hl => match us, hl with | [_, _, _], _ => rfl,
      g_4 := PySem.W.mg_of X G a4,
      F_5 := fun_mk (st := t_5) l5 c5 k5,
      kp_5 := k5,
      b_5 := fun us hl => match us, hl with | [_, _, _], _ => rfl,
      g_5 := PySem.W.mg_of X G a5,
      F_6 := fun_mk (st := t_6) l6 c6 k6,
      kp_6 := k6,
      b_6 := fun us hl => match us, hl with | [_], _ => rfl,
      F_7 := fun_mk (st := t_7) l7 c7 k7,
      kp_7 := k7,
      b_7 := fun us hl => match us, hl with | [_, _], _ => rfl,
      F_8 := fun_mk (st := t_8) l8 c8 k8,
      kp_8 := k8,
      b_8 := fun us hl => match us, hl with | [_, _], _ => rfl,
      F_9 := fun_mk (st := t_9) l9 c9 k9,
      kp_9 := k9,
      b_9 := fun us hl => match us, hl with | [_, _, _], _ => rfl,
      F_10 := fun_mk (st := t_10) l10 c10 k10,
      kp_10 := k10,
      b_10 := fun us hl => match us, hl with | [_, _, _], _ => rfl,
      F_11 := fun_mk (st := t_11) l11 c11 k11,
      kp_11 := k11,
      b_11 := fun us hl => match us, hl with | [_, _, _], _ => rfl,
      F_12 := fun_mk (st := t_12) l12 c12 k12,
      kp_12 := k12,
      b_12 := fun us hl => match us, hl with | [_, _, _], _ => rfl,
      F_13 := fun_mk (st := t_13) l13 c13 k13,
      kp_13 := k13,
      b_13 := fun us hl => match us, hl with | [_, _], _ => rfl,
      F_14 := fun_mk (st := t_14) l14 c14 k14,
      kp_14 := k14,
      b_14 := fun us hl => match us, hl with | [_, _], _ => rfl,
      F_15 := fun_mk (st := t_15) l15 c15 k15,
      kp_15 := k15,
      b_15 := fun us hl => match us, hl with | [_, _], _ => rfl,
      F_16 := fun_mk (st := t_16) l16 c16 k16,
      kp_16 := k16,
      b_16 := fun us hl => match us, hl with | [_, _], _ => rfl,
      F_17 := fun_mk (st := t_17) l17 c17 k17,
      kp_17 := k17,
      b_17 := fun us hl => match us, hl with | [_, _, _], _ => rfl,
      F_18 := fun_mk (st := t_18) l18 c18 k18,
      kp_18 := k18,
      b_18 := fun us hl => match us, hl with | [_, _, _], _ => rfl,
      F_19 := fun_mk (st := t_19) l19 c19 k19,
      kp_19 := k19,
      b_19 := fun us hl => match us, hl with | [_, _, _], _ => rfl,
      F_20 := fun_mk (st := t_20) l20 c20 k20,
      kp_20 := k20,
      b_20 := fun us hl => match us, hl with | [_, _], _ => rfl,
      F_21 := fun_mk (st := t_21) l21 c21 k21,
      kp_21 := k21,
      b_21 := fun us hl => match us, hl with | [_, _, _], _ => rfl,
      F_22 := fun_mk (st := t_22) l22 c22 k22,
      kp_22 := k22,
      b_22 := fun us hl => match us, hl with | [_], _ => rfl,
      g_22 := PySem.W.mg_of X G a22,
      F_23 := fun_mk (st := t_23) l23 c23 k23,
      kp_23 := k23,
      b_23 := fun us hl => match us, hl with | [_], _ => rfl,
      g_23 := PySem.W.mg_of X G a23,
      F_24 := fun_mk (st := t_24) l24 c24 k24,
      kp_24 := k24,
      b_24 := fun us hl => match us, hl with | [_], _ => rfl,
      g_24 := PySem.W.mg_of X G a24,
      F_25 := fun_mk (st := t_25) l25 c25 k25,
      kp_25 := k25,
      b_25 := fun us hl => match us, hl with | [_], _ => rfl,
      g_25 := PySem.W.mg_of X G a25,
      F_26 := fun_mk (st := t_26) l26 c26 k26,
      kp_26 := k26,
      b_26 := fun us hl => match us, hl with | [_], _ => rfl,
      g_26 := PySem.W.mg_of X G a26,
      F_27 := fun_mk (st := t_27) l27 c27 k27,
      kp_27 := k27,
      b_27 := fun us hl => match us, hl with | [_, _], _ => rfl,
      g_27 := PySem.W.mg_of X G a27,
      F_28 := fun_mk (st := t_28) l28 c28 k28,
      kp_28 := k28,
      b_28 := fun us hl => match us, hl with | [_, _, _], _ => rfl,
      g_28 := PySem.W.mg_of X G a28,
      F_29 := fun_mk (st := t_29) l29 c29 k29,
      kp_29 := k29,
      b_29 := fun us hl => match us, hl with | [_, _], _ => rfl,
      g_29 := PySem.W.mg_of X G a29,
      F_30 := fun_mk (st := t_30) l30 c30 k30,
      kp_30 := k30,
      b_30 := fun us hl => match us, hl with | [_], _ => rfl,
      g_30 := PySem.W.mg_of X G a30,
      F_31 := fun_mk (st := t_31) l31 c31 k31,
      kp_31 := k31,
      b_31 := fun us hl => match us, hl with | [_], _ => rfl,
      g_31 := PySem.W.mg_of X G a31,
      F_32 := fun_mk (st := t_32) l32 c32 k32,
      kp_32 := k32,
      b_32 := fun us hl => match us, hl with | [_, _], _ => rfl,
      g_32 := PySem.W.mg_of X G a32,
      F_33 := fun_mk (st := t_33) l33 c33 k33,
      kp_33 := k33,
      b_33 := fun us hl => match us, hl with | [_, _], _ => rfl,
      g_33 := PySem.W.mg_of X G a33,
      F_34 := fun_mk (st := t_34) l34 c34 k34,
      kp_34 := k34,
      b_34 := fun us hl => match us, hl with | [_, _, _], _ => rfl,
      g_34 := PySem.W.mg_of X G a34,
      F_35 := fun_mk (st := t_35) l35 c35 k35,
      kp_35 := k35,
      b_35 := fun us hl => match us, hl with | [_, _, _], _ => rfl,
      g_35 := PySem.W.mg_of X G a35,
      F_36 := fun_mk (st := t_36) l36 c36 k36,
      kp_36 := k36,
      b_36 := fun us hl => match us, hl with | [_, _, _], _ => rfl,
      g_36 := PySem.W.mg_of X G a36,
      F_37 := fun_mk (st := t_37) l37 c37 k37,
      kp_37 := k37,
      b_37 := fun us hl => match us, hl with | [_, _, _], _ => rfl,
      g_37 := PySem.W.mg_of X G a37,
      F_38 := fun_mk (st := t_38) l38 c38 k38,
      kp_38 := k38,
      b_38 := fun us hl => match us, hl with | [_, _, _], _ => rfl,
      g_38 := PySem.W.mg_of X G a38,
      F_39 := fun_mk (st := t_39) l39 c39 k39,
      kp_39 := k39,
      b_39 := fun us hl => match us, hl with | [_, _, _], _ => rfl,
      g_39 := PySem.W.mg_of X G a39,
      F_40 := fun_mk (st := t_40) l40 c40 k40,
      kp_40 := k40,
      b_40 := fun us hl => match us, hl with | [_, _], _ => rfl,
      g_40 := PySem.W.mg_of X G a40,
      F_41 := fun_mk (st := t_41) l41 c41 k41,
      kp_41 := k41,
      b_41 := fun us hl => match us, hl with | [_, _], _ => rfl,
      g_41 := PySem.W.mg_of X G a41,
      F_42 := fun_mk (st := t_42) l42 c42 k42,
      kp_42 := k42,
      b_42 := fun us hl => match us, hl with | [_], _ => rfl,
      g_42 := PySem.W.mg_of X G a42,
      F_43 := fun_mk (st := t_43) l43 c43 k43,
      kp_43 := k43,
      b_43 := fun us hl => match us, hl with | [_, _], _ => rfl,
      g_43 := PySem.W.mg_of X G a43,
      F_44 := fun_mk (st := t_44) l44 c44 k44,
      kp_44 := k44,
      b_44 := fun us hl => match us, hl with | [_, _, _], _ => rfl,
      g_44 := PySem.W.mg_of X G a44,
      F_45 := fun_mk (st := t_45) l45 c45 k45,
      kp_45 := k45,
      b_45 := fun us hl => match us, hl with | [_, _, _], _ => rfl,
      g_45 := PySem.W.mg_of X G a45,
      F_46 := fun_mk (st := t_46) l46 c46 k46,
      kp_46 := k46,
      b_46 := fun us hl => match us, hl with | [_, _], _ => rfl,
      g_46 := PySem.W.mg_of X G a46,
      F_47 := fun_mk (st := t_47) l47 c47 k47,
      kp_47 := k47,
      b_47 := fun us hl => match us, hl with | [_], _ => rfl,
      g_47 := PySem.W.mg_of X G a47,
      F_48 := fun_mk (st := t_48) l48 c48 k48,
      kp_48 := k48,
      b_48 := fun us hl => match us, hl with | [_], _ => rfl,
      g_48 := PySem.W.mg_of X G a48,
      F_49 := fun_mk (st := t_49) l49 c49 k49,
      kp_49 := k49,
      b_49 := fun us hl => match us, hl with | [_, _, _, _], _ => rfl,
      g_49 := PySem.W.mg_of X G a49,
      F_50 := fun_mk (st := t_50) l50 c50 k50,
      kp_50 := k50,
      b_50 := fun us hl => match us, hl with | [_, _], _ => rfl,
      g_50 := PySem.W.mg_of X G a50,
      F_51 := fun_mk (st := t_51) l51 c51 k51,
      kp_51 := k51,
      b_51 := fun us hl => match us, hl with | [_, _, _], _ => rfl,
      g_51 := PySem.W.mg_of X G a51,
      F_52 := fun_mk (st := t_52) l52 c52 k52,
      kp_52 := k52,
      b_52 := fun us hl => match us, hl with | [_, _, _, _], _ => rfl,
      g_52 := PySem.W.mg_of X G a52,
      F_53 := fun_mk (st := t_53) l53 c53 k53,
      kp_53 := k53,
      b_53 := fun us hl => match us, hl with | [_, _, _], _ => rfl,
      g_53 := PySem.W.mg_of X G a53,
      F_54 := fun_mk (st := t_54) l54 c54 k54,
      kp_54 := k54,
      b_54 := fun us hl => match us, hl with | [_], _ => rfl,
      g_54 := PySem.W.mg_of X G a54,
      F_55 := fun_mk (st := t_55) l55 c55 k55,
      kp_55 := k55,
      b_55 := fun us hl => match us, hl with | [_], _ => rfl,
      g_55 := PySem.W.mg_of X G a55,
      cl_4 := ⟨pg4, hd4, po4, sa4⟩,
      mc_4 := PySem.W.mg_of X G aC4,
      mk_4 := ⟨mk4, a6, i6, kc4⟩,
      na_4_1 := n4_1,
      na_4_2 := n4_2,
      m_4_0 := ⟨a7, i7, k7⟩,
      m_4_1 := ⟨a8, i8, k8⟩,
      m_4_2 := ⟨a9, i9, k9⟩,
      m_4_3 := ⟨a10, i10, k10⟩,
      m_4_4 := ⟨a11, i11, k11⟩,
      m_4_5 := ⟨a12, i12, k12⟩,
      cl_5 := ⟨pg5, hd5, po5, sa5⟩,
      mc_5 := PySem.W.mg_of X G aC5,
      mk_5 := ⟨mk5, a13, i13, kc5⟩,
      na_5_3 := n5_3,
      na_5_1 := n5_1,
      na_5_2 := n5_2,
      m_5_0 := ⟨a14, i14, k14⟩,
      m_5_6 := ⟨a15, i15, k15⟩,
      m_5_1 := ⟨a16, i16, k16⟩,
      m_5_2 := ⟨a17, i17, k17⟩,
      m_5_3 := ⟨a18, i18, k18⟩,
      m_5_4 := ⟨a19, i19, k19⟩,
      m_5_7 := ⟨a20, i20, k20⟩,
      m_5_5 := ⟨a21, i21, k21⟩,
      mc_0 := PySem.W.mg_of X G aC0,
      kc_0 := kc0,
      e_0 := DpX.errT_mk xL0 sa0 nv0 iI vE0 bl0 su0 tI lI cI coI ceI hd0 stI vI flI (by rfl) tpI (fun env => ⟨_, rfl⟩),
      sb_0 := sb0,
      ty_0 := ty0,
      xf_0 := ⟨ga0, gg0, sb0, hd0⟩,
      nv_0 := nv0,
      xc_0 := ⟨ga0, gg0, sb0, hd0, cc0, spI, tkI, mo0⟩,
      mc_1 := PySem.W.mg_of X G aC1,
      kc_1 := kc1,
      e_1 := DpX.errT_mk xL1 sa1 nv1 iI1 vE1 bl1 su1 tI lI cI coI ceI hd0 stI vI flI (by rfl) tpI (fun env => ⟨_, rfl⟩),
      sb_1 := sb1,
      ty_1 := ty1,
      xf_1 := ⟨ga1, gg1, sb1, hd1⟩,
      nv_1 := nv1,
      xc_1 := ⟨ga1, gg1, sb1, hd1, cc1, spI, tkI, mo1⟩,
      mc_2 := PySem.W.mg_of X G aC2,
      kc_2 := kc2,
      e_2 := DpX.errT_mk xL2 sa2 nv2 iI2 vE2 bl2 su2 tI lI cI coI ceI hd0 stI vI flI (by rfl) tpI (fun env => ⟨_, rfl⟩),
      sb_2 := sb2,
      ty_2 := ty2,
      xf_2 := ⟨ga2, gg2, sb2, hd2⟩,
      nv_2 := nv2,
      xc_2 := ⟨ga2, gg2, sb2, hd2, cc2, spI, tkI, mo2⟩,
      mc_3 := PySem.W.mg_of X G aC3,
      kc_3 := kc3,
      e_3 := DpX.errT_mk xL3 sa3 nv3 iI3 vE3 bl3 su3 tI lI cI coI ceI hd0 stI vI flI (by rfl) tpI (fun env => ⟨_, rfl⟩),
      sb_3 := sb3,
      ty_3 := ty3,
      xf_3 := ⟨ga3, gg3, sb3, hd3⟩,
      nv_3 := nv3,
      xc_3 := ⟨ga3, gg3, sb3, hd3, cc3, spI, tkI, mo3⟩,
      s_0_0 := ⟨PySem.W.exm_ref sb0 hd0 ty0 s0_0, DpX.kit_ref hd0 ty0 s0_0 (fun _ => rfl)⟩,
      s_0_1 := ⟨PySem.W.exm_ref sb1 hd1 ty1 s0_1, DpX.kit_ref hd1 ty1 s0_1 (fun z => absurd (ne0_1.symm.trans z) Bool.false_ne_true)⟩,
      s_0_2 := ⟨PySem.W.exm_ref sb2 hd2 ty2 s0_2, DpX.kit_ref hd2 ty2 s0_2 (fun z => absurd (ne0_2.symm.trans z) Bool.false_ne_true)⟩,
      s_0_3 := ⟨PySem.W.exm_ref sb3 hd3 ty3 s0_3, DpX.kit_ref hd3 ty3 s0_3 (fun z => absurd (ne0_3.symm.trans z) Bool.false_ne_true)⟩,
      s_1_0 := ⟨PySem.W.exm_ref sb0 hd0 ty0 s1_0, DpX.kit_ref hd0 ty0 s1_0 (fun _ => rfl)⟩,
      s_1_1 := ⟨PySem.W.exm_ref sb1 hd1 ty1 s1_1, DpX.kit_ref hd1 ty1 s1_1 (fun _ => rfl)⟩,
      s_1_2 := ⟨PySem.W.exm_ref sb2 hd2 ty2 s1_2, DpX.kit_ref hd2 ty2 s1_2 (fun z => absurd (ne1_2.symm.trans z) Bool.false_ne_true)⟩,
      s_1_3 := ⟨PySem.W.exm_ref sb3 hd3 ty3 s1_3, DpX.kit_ref hd3 ty3 s1_3 (fun z => absurd (ne1_3.symm.trans z) Bool.false_ne_true)⟩,
      s_2_0 := ⟨PySem.W.exm_ref sb0 hd0 ty0 s2_0, DpX.kit_ref hd0 ty0 s2_0 (fun _ => rfl)⟩,
      s_2_1 := ⟨PySem.W.exm_ref sb1 hd1 ty1 s2_1, DpX.kit_ref hd1 ty1 s2_1 (fun z => absurd (ne2_1.symm.trans z) Bool.false_ne_true)⟩,
      s_2_2 := ⟨PySem.W.exm_ref sb2 hd2 ty2 s2_2, DpX.kit_ref hd2 ty2 s2_2 (fun _ => rfl)⟩,
      s_2_3 := ⟨PySem.W.exm_ref sb3 hd3 ty3 s2_3, DpX.kit_ref hd3 ty3 s2_3 (fun z => absurd (ne2_3.symm.trans z) Bool.false_ne_true)⟩,
      s_3_0 := ⟨PySem.W.exm_ref sb0 hd0 ty0 s3_0, DpX.kit_ref hd0 ty0 s3_0 (fun _ => rfl)⟩,
      s_3_1 := ⟨PySem.W.exm_ref sb1 hd1 ty1 s3_1, DpX.kit_ref hd1 ty1 s3_1 (fun z => absurd (ne3_1.symm.trans z) Bool.false_ne_true)⟩,
      s_3_2 := ⟨PySem.W.exm_ref sb2 hd2 ty2 s3_2, DpX.kit_ref hd2 ty2 s3_2 (fun z => absurd (ne3_2.symm.trans z) Bool.false_ne_true)⟩,
      s_3_3 := ⟨PySem.W.exm_ref sb3 hd3 ty3 s3_3, DpX.kit_ref hd3 ty3 s3_3 (fun _ => rfl)⟩,
      c_BY := ⟨_, PySem.W.mg_of X G q_BY, .str "by", ⟨_, rfl⟩, fun F => rep_str⟩,
      c_MOST_POWER := ⟨_, PySem.W.mg_of X G q_MOST_POWER, .int 40, ⟨_, rfl⟩, fun F => rep_int⟩,
      c_PRIMES := ⟨_, PySem.W.mg_of X G q_PRIMES, .ref ad_PRIMES, rfl, fun F => by unfold Rep; exact ⟨ad_PRIMES, [.int 2, .int 3, .int 5], rfl, .inr ⟨_, _, _, r_PRIMES, rfl, rfl, by show 3 ≤ sizeLine; decide, (.cons ⟨_, rfl⟩ (.cons ⟨_, rfl⟩ (.cons ⟨_, rfl⟩ .nil)))⟩, (RepL.cons rep_int (RepL.cons rep_int (RepL.cons rep_int RepL.nil)))⟩⟩,
      c_WHOLE := ⟨_, PySem.W.mg_of X G q_WHOLE, .ref ad_WHOLE, rfl, fun F => by unfold Rep; exact ⟨ad_WHOLE, [.str "whole"], rfl, .inr ⟨_, _, _, r_WHOLE, rfl, rfl, by show 1 ≤ sizeLine; decide, (.cons ⟨_, rfl⟩ .nil)⟩, (RepL.cons rep_str RepL.nil)⟩⟩ }
  subst e2
  exact ⟨_, gx K _, rfl, fun s u => .of_eq rfl, fun base _ _ => (all_ok T 40).ok_55⟩
end Lw
open PySem PySem.W PyProof.Rows
set_option maxRecDepth 100000 in
set_option maxHeartbeats 0 in
theorem PySem.Challenge.cw_sayingsofsums_k01_sums_products_and_rest_holds : PySem.Challenge.rw_sayingsofsums_k01_sums_products_and_rest.Holds := by
  w_on; o_law; k_head; (case hw => w_witness2)
  k_fill
  refine Dp.walkD2 (l := PySem.Challenge.rw_sayingsofsums_k01_sums_products_and_rest) (n := 63) (k := 2 * 40) (f := 55) (x := "script") (Dp.callP Lw.pr 40) rfl (by decide) rfl ⟨⟨rfl, by decide, by decide⟩, rfl⟩ (fun w h Y => PySem.W.kIn_of Y) ?F Lw.law_ok
  case F =>
    intro w mg fa h KX G hmg
    refine' Lw.fin_mk KX G hmg ?aC0 ?aC1 ?aC2 ?aC3 ?aC4 ?aC5 ?a0 ?l0 ?c0 ?k0 ?a1 ?l1 ?c1 ?k1 ?a2 ?l2 ?c2 ?k2 ?a3 ?l3 ?c3 ?k3 ?a4 ?l4 ?c4 ?k4 ?a5 ?l5 ?c5 ?k5 ?a6 ?i6 ?l6 ?c6 ?k6 ?a7 ?i7 ?l7 ?c7 ?k7 ?a8 ?i8 ?l8 ?c8 ?k8 ?a9 ?i9 ?l9 ?c9 ?k9 ?a10 ?i10 ?l10 ?c10 ?k10 ?a11 ?i11 ?l11 ?c11 ?k11 ?a12 ?i12 ?l12 ?c12 ?k12 ?a13 ?i13 ?l13 ?c13 ?k13 ?a14 ?i14 ?l14 ?c14 ?k14 ?a15 ?i15 ?l15 ?c15 ?k15 ?a16 ?i16 ?l16 ?c16 ?k16 ?a17 ?i17 ?l17 ?c17 ?k17 ?a18 ?i18 ?l18 ?c18 ?k18 ?a19 ?i19 ?l19 ?c19 ?k19 ?a20 ?i20 ?l20 ?c20 ?k20 ?a21 ?i21 ?l21 ?c21 ?k21 ?a22 ?l22 ?c22 ?k22 ?a23 ?l23 ?c23 ?k23 ?a24 ?l24 ?c24 ?k24 ?a25 ?l25 ?c25 ?k25 ?a26 ?l26 ?c26 ?k26 ?a27 ?l27 ?c27 ?k27 ?a28 ?l28 ?c28 ?k28 ?a29 ?l29 ?c29 ?k29 ?a30 ?l30 ?c30 ?k30 ?a31 ?l31 ?c31 ?k31 ?a32 ?l32 ?c32 ?k32 ?a33 ?l33 ?c33 ?k33 ?a34 ?l34 ?c34 ?k34 ?a35 ?l35 ?c35 ?k35 ?a36 ?l36 ?c36 ?k36 ?a37 ?l37 ?c37 ?k37 ?a38 ?l38 ?c38 ?k38 ?a39 ?l39 ?c39 ?k39 ?a40 ?l40 ?c40 ?k40 ?a41 ?l41 ?c41 ?k41 ?a42 ?l42 ?c42 ?k42 ?a43 ?l43 ?c43 ?k43 ?a44 ?l44 ?c44 ?k44 ?a45 ?l45 ?c45 ?k45 ?a46 ?l46 ?c46 ?k46 ?a47 ?l47 ?c47 ?k47 ?a48 ?l48 ?c48 ?k48 ?a49 ?l49 ?c49 ?k49 ?a50 ?l50 ?c50 ?k50 ?a51 ?l51 ?c51 ?k51 ?a52 ?l52 ?c52 ?k52 ?a53 ?l53 ?c53 ?k53 ?a54 ?l54 ?c54 ?k54 ?a55 ?l55 ?c55 ?k55 ?z_abs ?z_all ?z_bool ?z_enumerate ?z_int ?z_isinstance ?z_len ?z_list ?z_max ?z_min ?z_range ?z_repr ?z_str ?z_super ?z_tuple ?z_zip ?pg4 ?hd4 ?po4 ?sa4 ?mk4 ?kc4 ?n4_1 ?n4_2 ?pg5 ?hd5 ?po5 ?sa5 ?mk5 ?kc5 ?n5_3 ?n5_1 ?n5_2 ?iI ?tI ?lI ?cI ?coI ?ceI ?stI ?vI ?flI ?tpI ?xL0 ?sa0 ?nv0 ?vE0 ?bl0 ?su0 ?kc0 ?sb0 ?ty0 ?ga0 ?gg0 ?hd0 ?cc0 ?mo0 ?xL1 ?sa1 ?nv1 ?iI1 ?vE1 ?bl1 ?su1 ?kc1 ?sb1 ?ty1 ?ga1 ?gg1 ?hd1 ?cc1 ?mo1 ?xL2 ?sa2 ?nv2 ?iI2 ?vE2 ?bl2 ?su2 ?kc2 ?sb2 ?ty2 ?ga2 ?gg2 ?hd2 ?cc2 ?mo2 ?xL3 ?sa3 ?nv3 ?iI3 ?vE3 ?bl3 ?su3 ?kc3 ?sb3 ?ty3 ?ga3 ?gg3 ?hd3 ?cc3 ?mo3 ?spI ?tkI ?s0_0 ?s0_1 ?ne0_1 ?s0_2 ?ne0_2 ?s0_3 ?ne0_3 ?s1_0 ?s1_1 ?s1_2 ?ne1_2 ?s1_3 ?ne1_3 ?s2_0 ?s2_1 ?ne2_1 ?s2_2 ?s2_3 ?ne2_3 ?s3_0 ?s3_1 ?ne3_1 ?s3_2 ?ne3_2 ?s3_3 ?q_BY ?q_MOST_POWER ?q_PRIMES ?r_PRIMES ?q_WHOLE ?r_WHOLE
    (case aC0 => k_is)
    (case aC1 => k_is)
    (case aC2 => k_is)
    (case aC3 => k_is)
    (case aC4 => k_is)
    (case aC5 => k_is)
    (case a0 => k_is)
    (case l0 => k_is)
    (case c0 => k_is)
    (case k0 => k_is)
    (case a1 => k_is)
    (case l1 => k_is)
    (case c1 => k_is)
    (case k1 => k_is)
    (case a2 => k_is)
    (case l2 => k_is)
    (case c2 => k_is)
    (case k2 => k_is)
    (case a3 => k_is)
    (case l3 => k_is)
    (case c3 => k_is)
    (case k3 => k_is)
    (case a4 => k_is)
    (case l4 => k_is)
    (case c4 => k_is)
    (case k4 => k_is)
    (case a5 => k_is)
    (case l5 => k_is)
    (case c5 => k_is)
    (case k5 => k_is)
    (case a6 => k_is)
    (case i6 => k_is)
    (case l6 => k_is)
    (case c6 => k_is)
    (case k6 => k_is)
    (case a7 => k_is)
    (case i7 => k_is)
    (case l7 => k_is)
    (case c7 => k_is)
    (case k7 => k_is)
    (case a8 => k_is)
    (case i8 => k_is)
    (case l8 => k_is)
    (case c8 => k_is)
    (case k8 => k_is)
    (case a9 => k_is)
    (case i9 => k_is)
    (case l9 => k_is)
    (case c9 => k_is)
    (case k9 => k_is)
    (case a10 => k_is)
    (case i10 => k_is)
    (case l10 => k_is)
    (case c10 => k_is)
    (case k10 => k_is)
    (case a11 => k_is)
    (case i11 => k_is)
    (case l11 => k_is)
    (case c11 => k_is)
    (case k11 => k_is)
    (case a12 => k_is)
    (case i12 => k_is)
    (case l12 => k_is)
    (case c12 => k_is)
    (case k12 => k_is)
    (case a13 => k_is)
    (case i13 => k_is)
    (case l13 => k_is)
    (case c13 => k_is)
    (case k13 => k_is)
    (case a14 => k_is)
    (case i14 => k_is)
    (case l14 => k_is)
    (case c14 => k_is)
    (case k14 => k_is)
    (case a15 => k_is)
    (case i15 => k_is)
    (case l15 => k_is)
    (case c15 => k_is)
    (case k15 => k_is)
    (case a16 => k_is)
    (case i16 => k_is)
    (case l16 => k_is)
    (case c16 => k_is)
    (case k16 => k_is)
    (case a17 => k_is)
    (case i17 => k_is)
    (case l17 => k_is)
    (case c17 => k_is)
    (case k17 => k_is)
    (case a18 => k_is)
    (case i18 => k_is)
    (case l18 => k_is)
    (case c18 => k_is)
    (case k18 => k_is)
    (case a19 => k_is)
    (case i19 => k_is)
    (case l19 => k_is)
    (case c19 => k_is)
    (case k19 => k_is)
    (case a20 => k_is)
    (case i20 => k_is)
    (case l20 => k_is)
    (case c20 => k_is)
    (case k20 => k_is)
    (case a21 => k_is)
    (case i21 => k_is)
    (case l21 => k_is)
    (case c21 => k_is)
    (case k21 => k_is)
    (case a22 => k_is)
    (case l22 => k_is)
    (case c22 => k_is)
    (case k22 => k_is)
    (case a23 => k_is)
    (case l23 => k_is)
    (case c23 => k_is)
    (case k23 => k_is)
    (case a24 => k_is)
    (case l24 => k_is)
    (case c24 => k_is)
    (case k24 => k_is)
    (case a25 => k_is)
    (case l25 => k_is)
    (case c25 => k_is)
    (case k25 => k_is)
    (case a26 => k_is)
    (case l26 => k_is)
    (case c26 => k_is)
    (case k26 => k_is)
    (case a27 => k_is)
    (case l27 => k_is)
    (case c27 => k_is)
    (case k27 => k_is)
    (case a28 => k_is)
    (case l28 => k_is)
    (case c28 => k_is)
    (case k28 => k_is)
    (case a29 => k_is)
    (case l29 => k_is)
    (case c29 => k_is)
    (case k29 => k_is)
    (case a30 => k_is)
    (case l30 => k_is)
    (case c30 => k_is)
    (case k30 => k_is)
    (case a31 => k_is)
    (case l31 => k_is)
    (case c31 => k_is)
    (case k31 => k_is)
    (case a32 => k_is)
    (case l32 => k_is)
    (case c32 => k_is)
    (case k32 => k_is)
    (case a33 => k_is)
    (case l33 => k_is)
    (case c33 => k_is)
    (case k33 => k_is)
    (case a34 => k_is)
    (case l34 => k_is)
    (case c34 => k_is)
    (case k34 => k_is)
    (case a35 => k_is)
    (case l35 => k_is)
    (case c35 => k_is)
    (case k35 => k_is)
    (case a36 => k_is)
    (case l36 => k_is)
    (case c36 => k_is)
    (case k36 => k_is)
    (case a37 => k_is)
    (case l37 => k_is)
    (case c37 => k_is)
    (case k37 => k_is)
    (case a38 => k_is)
    (case l38 => k_is)
    (case c38 => k_is)
    (case k38 => k_is)
    (case a39 => k_is)
    (case l39 => k_is)
    (case c39 => k_is)
    (case k39 => k_is)
    (case a40 => k_is)
    (case l40 => k_is)
    (case c40 => k_is)
    (case k40 => k_is)
    (case a41 => k_is)
    (case l41 => k_is)
    (case c41 => k_is)
    (case k41 => k_is)
    (case a42 => k_is)
    (case l42 => k_is)
    (case c42 => k_is)
    (case k42 => k_is)
    (case a43 => k_is)
    (case l43 => k_is)
    (case c43 => k_is)
    (case k43 => k_is)
    (case a44 => k_is)
    (case l44 => k_is)
    (case c44 => k_is)
    (case k44 => k_is)
    (case a45 => k_is)
    (case l45 => k_is)
    (case c45 => k_is)
    (case k45 => k_is)
    (case a46 => k_is)
    (case l46 => k_is)
    (case c46 => k_is)
    (case k46 => k_is)
    (case a47 => k_is)
    (case l47 => k_is)
    (case c47 => k_is)
    (case k47 => k_is)
    (case a48 => k_is)
    (case l48 => k_is)
    (case c48 => k_is)
    (case k48 => k_is)
    (case a49 => k_is)
    (case l49 => k_is)
    (case c49 => k_is)
    (case k49 => k_is)
    (case a50 => k_is)
    (case l50 => k_is)
    (case c50 => k_is)
    (case k50 => k_is)
    (case a51 => k_is)
    (case l51 => k_is)
    (case c51 => k_is)
    (case k51 => k_is)
    (case a52 => k_is)
    (case l52 => k_is)
    (case c52 => k_is)
    (case k52 => k_is)
    (case a53 => k_is)
    (case l53 => k_is)
    (case c53 => k_is)
    (case k53 => k_is)
    (case a54 => k_is)
    (case l54 => k_is)
    (case c54 => k_is)
    (case k54 => k_is)
    (case a55 => k_is)
    (case l55 => k_is)
    (case c55 => k_is)
    (case k55 => k_is)
    (case z_abs => k_is)
    (case z_all => k_is)
    (case z_bool => k_is)
    (case z_enumerate => k_is)
    (case z_int => k_is)
    (case z_isinstance => k_is)
    (case z_len => k_is)
    (case z_list => k_is)
    (case z_max => k_is)
    (case z_min => k_is)
    (case z_range => k_is)
    (case z_repr => k_is)
    (case z_str => k_is)
    (case z_super => k_is)
    (case z_tuple => k_is)
    (case z_zip => k_is)
    (case pg4 => k_is)
    (case hd4 => k_is)
    (case po4 => k_is)
    (case sa4 => k_is)
    (case mk4 => k_is)
    (case kc4 => k_is)
    (case n4_1 => k_is)
    (case n4_2 => k_is)
    (case pg5 => k_is)
    (case hd5 => k_is)
    (case po5 => k_is)
    (case sa5 => k_is)
    (case mk5 => k_is)
    (case kc5 => k_is)
    (case n5_3 => k_is)
    (case n5_1 => k_is)
    (case n5_2 => k_is)
    (case iI => k_is)
    (case tI => k_is)
    (case lI => k_is)
    (case cI => k_is)
    (case coI => k_is)
    (case ceI => k_is)
    (case stI => k_is)
    (case vI => rfl)
    (case flI => first | rfl | decide +kernel)
    (case tpI => first | rfl | decide +kernel)
    (case xL0 => k_is)
    (case sa0 => k_is)
    (case nv0 => k_is)
    (case vE0 => k_is)
    (case bl0 => k_is)
    (case su0 => ks_is)
    (case kc0 => k_is)
    (case sb0 => k_is)
    (case ty0 => k_is)
    (case ga0 => k_is)
    (case gg0 => k_is)
    (case hd0 => k_is)
    (case cc0 => k_is)
    (case mo0 => k_is)
    (case xL1 => k_is)
    (case sa1 => k_is)
    (case nv1 => k_is)
    (case iI1 => k_is)
    (case vE1 => k_is)
    (case bl1 => k_is)
    (case su1 => ks_is)
    (case kc1 => k_is)
    (case sb1 => k_is)
    (case ty1 => k_is)
    (case ga1 => k_is)
    (case gg1 => k_is)
    (case hd1 => k_is)
    (case cc1 => k_is)
    (case mo1 => k_is)
    (case xL2 => k_is)
    (case sa2 => k_is)
    (case nv2 => k_is)
    (case iI2 => k_is)
    (case vE2 => k_is)
    (case bl2 => k_is)
    (case su2 => ks_is)
    (case kc2 => k_is)
    (case sb2 => k_is)
    (case ty2 => k_is)
    (case ga2 => k_is)
    (case gg2 => k_is)
    (case hd2 => k_is)
    (case cc2 => k_is)
    (case mo2 => k_is)
    (case xL3 => k_is)
    (case sa3 => k_is)
    (case nv3 => k_is)
    (case iI3 => k_is)
    (case vE3 => k_is)
    (case bl3 => k_is)
    (case su3 => ks_is)
    (case kc3 => k_is)
    (case sb3 => k_is)
    (case ty3 => k_is)
    (case ga3 => k_is)
    (case gg3 => k_is)
    (case hd3 => k_is)
    (case cc3 => k_is)
    (case mo3 => k_is)
    (case spI => k_is)
    (case tkI => k_is)
    (case s0_0 => k_is)
    (case s0_1 => k_is)
    (case ne0_1 => rfl)
    (case s0_2 => k_is)
    (case ne0_2 => rfl)
    (case s0_3 => k_is)
    (case ne0_3 => rfl)
    (case s1_0 => k_is)
    (case s1_1 => k_is)
    (case s1_2 => k_is)
    (case ne1_2 => rfl)
    (case s1_3 => k_is)
    (case ne1_3 => rfl)
    (case s2_0 => k_is)
    (case s2_1 => k_is)
    (case ne2_1 => rfl)
    (case s2_2 => k_is)
    (case s2_3 => k_is)
    (case ne2_3 => rfl)
    (case s3_0 => k_is)
    (case s3_1 => k_is)
    (case ne3_1 => rfl)
    (case s3_2 => k_is)
    (case ne3_2 => rfl)
    (case s3_3 => k_is)
    (case q_BY => k_is)
    (case q_MOST_POWER => k_is)
    (case q_PRIMES => k_is)
    (case r_PRIMES => k_is)
    (case q_WHOLE => k_is)
    (case r_WHOLE => k_is)
